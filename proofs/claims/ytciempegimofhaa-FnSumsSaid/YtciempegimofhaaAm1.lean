/- An abstract machine over the kit's walk: own lemmas, one part. -/
import Derived.WalkKit
import Derived.Deep.Quiet
import Derived.MapKept
set_option linter.unusedSectionVars false
set_option linter.unusedSimpArgs false
set_option linter.unusedVariables false
set_option linter.unnecessarySimpa false
namespace Go.AM

/-- Immutable values: what they hold lies in the value itself, no address is in sight. -/
inductive IV where
  | c (v : Value)
  | agg (l : List IV)
  | sl (s : Nat) (ex : Bool) (n : Nat) (f : Nat → IV)
  | ptr (v : IV)
  | clo (f : FuncId) (caps : List IV)

instance : Inhabited IV := ⟨.c (.bool false)⟩

/-- Values of slots: immutable ones, and references to owned objects (by number). -/
inductive AV where
  | i (v : IV)
  | agg (l : List AV)
  | tup (l : List AV)
  | osl (id : Nat) (row : Option Nat)
  | oel (id : Nat) (row : Option Nat) (s j off : Nat)
  | optr (id off : Nat)
  | clo (f : FuncId) (caps : List AV)
  | omap (id : Nat)
  | opt (g : Bool) (v : AV)
  | any

instance : Inhabited AV := ⟨.i default⟩

/-- Owned objects. -/
inductive AObj where
  | dead
  | box (t : TypeId) (cells : List AV)
  | arr (fx : Bool) (t : TypeId) (s : Nat) (n : Nat) (f : Nat → IV)
  | arr2 (fx : Bool) (t tr : TypeId) (sr : Nat) (n : Nat) (g : Nat → Nat × (Nat → IV)) (hole : Option Nat)
  | map (k : IntKind) (et : TypeId) (card : Nat) (dom : Int → Bool) (val : Int → IV)

def cellsAt (w : World) (b o : Nat) (cs : List Value) : Prop := ∀ k v, cs[k]? = some v → w.cell? ⟨b, o + k, none⟩ = some v

mutual
/-- the cells of an immutable value, in a world, all in blocks of I -/
def crel (I : Nat → Prop) (w : World) : IV → List Value → Prop
  | .c v, cs => cs = [v] ∧ v.oneCell' = true
  | .agg l, cs => crelAll I w l cs
  | .sl s ex n f, cs => ∃ a cap, cs = [.slice a n cap] ∧ n ≤ cap ∧ (ex = true → cap = n) ∧
      (n = 0 ∨ ∃ b o, a = some ⟨b, o, none⟩ ∧ I b ∧ ∀ j, j < n → ∃ es, es.length = s ∧ crel I w (f j) es ∧ cellsAt w b (o + j * s) es)
  | .ptr e, cs => ∃ b o es, cs = [.pointer (some ⟨b, o, none⟩)] ∧ I b ∧ crel I w e es ∧ cellsAt w b o es
  | .clo f caps, cs => ∃ vs : List Value, cs = [.func (.func f) #[] vs.toArray] ∧ crelAll I w caps vs
def crelAll (I : Nat → Prop) (w : World) : List IV → List Value → Prop
  | [], cs => cs = []
  | e :: l, cs => ∃ v r, cs = v :: r ∧ crel I w e [v] ∧ crelAll I w l r
end

/-- a whole value -/
def irel (I : Nat → Prop) (w : World) : IV → Value → Prop
  | .agg l, x => ∃ cs : List Value, x = .agg cs.toArray ∧ crelAll I w l cs
  | e, x => crel I w e [x]


/-- where the owned objects lie: the slice, pointer or map value of each, and of each row of a slice of slices -/
structure Hd where
  val : Nat → Option Nat → Value

def Hd.blk (X : Hd) (id : Nat) (row : Option Nat) : Option Nat :=
  match X.val id row with
  | .slice (some a) _ _ => some a.block
  | .pointer (some a) => some a.block
  | .map (some r) => some r
  | _ => none

mutual
def arel (I : Nat → Prop) (w : World) (X : Hd) : AV → Value → Prop
  | .i v, x => irel I w v x
  | .agg l, x => ∃ cs : List Value, x = .agg cs.toArray ∧ arelAll I w X l cs ∧ ∀ v ∈ cs, v.oneCell' = true
  | .tup l, x => ∃ cs : List Value, x = .tuple cs.toArray ∧ arelAll I w X l cs
  | .osl id row, x => x = X.val id row ∧ ∃ a n c, x = .slice a n c
  | .oel id row s j off, x => ∃ b, (∃ n c, X.val id row = .slice (some ⟨b, 0, none⟩) n c) ∧ x = .pointer (some ⟨b, j * s + off, none⟩)
  | .optr id off, x => ∃ b, X.val id none = .pointer (some ⟨b, 0, none⟩) ∧ x = .pointer (some ⟨b, off, none⟩)
  | .clo f caps, x => ∃ vs : List Value, x = .func (.func f) #[] vs.toArray ∧ arelAll I w X caps vs
  | .omap id, x => x = X.val id none ∧ ∃ r, x = .map (some r)
  | .opt g v, x => (g = true → arel I w X v x) ∧ (g = false → x = undef)
  | .any, _ => True
def arelAll (I : Nat → Prop) (w : World) (X : Hd) : List AV → List Value → Prop
  | [], cs => cs = []
  | e :: l, cs => ∃ v r, cs = v :: r ∧ arel I w X e v ∧ arelAll I w X l r
end

mutual
/-- every reference of a value is of this kind -/
def refs (p : Nat → Option Nat → Bool) : AV → Bool
  | .i _ => true
  | .agg l => refsAll p l
  | .tup l => refsAll p l
  | .osl id row => p id row
  | .oel id row _ _ _ => p id row
  | .optr id _ => p id none
  | .clo _ caps => refsAll p caps
  | .omap id => p id none
  | .opt _ v => refs p v
  | .any => true
def refsAll (p : Nat → Option Nat → Bool) : List AV → Bool
  | [] => true
  | e :: l => match refs p e with | true => refsAll p l | false => false
end

def below (n : Nat) (id : Nat) (_ : Option Nat) : Bool := Nat.blt id n

/-- the row of an owned slice: its cells -/
def rowrel (I : Nat → Prop) (w : World) (t : TypeId) (s : Nat) (v : Value) (n : Nat) (f : Nat → IV) : Prop :=
  ∃ xs : List Value, w.ownsRow 0 t s v n xs ∧ ∀ j, j < n → ∃ es, es.length = s ∧ crel I w (f j) es ∧ ∀ (k : Nat) v, es[k]? = some v → xs[j * s + k]? = some v

def keyEq (k : IntKind) (x : Int) (e : MapEntry) : Bool := match e.key with | .int k' y => k == k' && x == y | _ => false

def orel (P : Program) (I : Nat → Prop) (w : World) (X : Hd) (len id : Nat) : AObj → Prop
  | .dead => True
  | .box t cells => ∃ b cs, X.val id none = .pointer (some ⟨b, 0, none⟩) ∧ w.heap[b]? = some (.cells cs.toArray t (0, 0)) ∧ arelAll I w X cells cs ∧ (∀ v ∈ cs, v.oneCell' = true) ∧ refsAll (below len) cells = true
  | .arr _ t s n f => rowrel I w t s (X.val id none) n f
  | .arr2 _ t tr sr n g hole => (∃ xs : List Value, w.ownsRow 0 t 1 (X.val id none) n xs ∧ (∀ v ∈ xs, v.oneCell' = true) ∧ ∀ j, j < n → hole ≠ some j → xs[j]? = some (X.val id (some j))) ∧
      ∀ j, j < n → hole ≠ some j → rowrel I w tr sr (X.val id (some j)) (g j).1 (g j).2
  | .map k et card dom val => ∃ r es clock, X.val id none = .map (some r) ∧ w.heap[r]? = some (.map es clock) ∧ es.size = card ∧
      (∀ e ∈ es.toList, ∃ y, e.key = .int k y) ∧
      ∀ y : Int, (dom y = true → ∃ e, es.toList.find? (keyEq k y) = some e ∧ irel I w (val y) e.val) ∧ (dom y = false → es.toList.find? (keyEq k y) = none ∧ ∃ z, (P.info? et).bind (·.zero) = some z ∧ irel I w (val y) z)

def liveObj : AObj → Option Nat → Prop
  | .box .., row | .arr .., row | .map .., row => row = none
  | .arr2 _ _ _ _ n _ hole, row => row = none ∨ ∃ j, row = some j ∧ j < n ∧ hole ≠ some j
  | .dead, _ => False

def live (H : List AObj) (id : Nat) (row : Option Nat) : Prop :=
  match H[id]? with
  | some o => liveObj o row
  | none => False

/-- the owned objects lie in the world, apart from one another and from the immutable data -/
structure HOk (P : Program) (I : Nat → Prop) (w : World) (X : Hd) (H : List AObj) : Prop where
  obj : ∀ id o, H[id]? = some o → orel P I w X H.length id o
  inj : ∀ id row id' row' b, live H id row → live H id' row' → X.blk id row = some b → X.blk id' row' = some b → id = id' ∧ row = row'
  off : ∀ id row b, live H id row → X.blk id row = some b → ¬ I b

abbrev Env := List (Nat × AV)

def get (env : Env) (k : Nat) : Option AV :=
  match env with
  | [] => none
  | (k', v) :: r => match Nat.beq k k' with | true => some v | false => get r k

/-- what was there at the call's begin and was not handed over is as it was -/
structure Keep (O : Nat → Prop) (w w' : World) : Prop where
  os : w'.os = w.os
  tape : w'.tape = w.tape
  output : w'.output = w.output
  size : w.heap.size ≤ w'.heap.size
  block : ∀ b, b < w.heap.size → ¬ O b → w'.heap[b]? = w.heap[b]?

def fixedObj : AObj → Bool
  | .box .. | .map .. => true
  | .arr fx _ _ _ _ => fx
  | .arr2 fx _ _ _ _ _ _ => fx
  | .dead => false

structure Ctx where
  P : Program
  N : Nat
  w0 : World
  I0 : Nat → Prop
  O0 : Nat → Prop
  X0 : Hd
  fx : Nat → Bool

structure Rel (C : Ctx) (env : Env) (H : List AObj) (I : Nat → Prop) (X : Hd) (tmps : Array Value) (w : World) : Prop where
  size : tmps.size = C.N
  env : ∀ k v, get env k = some v → k < C.N ∧ refs (below H.length) v = true ∧ arel I w X v (tmps.getD k undef)
  hok : HOk C.P I w X H
  sub : ∀ b, C.I0 b → I b
  sup : ∀ b, I b → C.I0 b ∨ C.w0.heap.size ≤ b
  ilt : ∀ b, I b → b < w.heap.size
  own : ∀ id row b, live H id row → X.blk id row = some b → C.O0 b ∨ C.w0.heap.size ≤ b
  keep : Keep C.O0 C.w0 w
  hfx : ∀ k, C.fx k = true → (∃ o, H[k]? = some o ∧ fixedObj o = true) ∧ X.val k none = C.X0.val k none

def St (C : Ctx) (env : Env) (H : List AObj) (a : Act) (w : World) : Prop :=
  a.defers = [] ∧ ∃ I X, Rel C env H I X a.tmps w

end Go.AM

namespace Go.AM

theorem cellsAt_congr {w w' : World} {b o : Nat} {cs : List Value} (h : w'.heap[b]? = w.heap[b]?) (hc : cellsAt w b o cs) : cellsAt w' b o cs := by
  intro k v hk
  have := hc k v hk
  rw [World.cell?_of_block (w := w) (w' := w') h]
  exact this

section
variable {I I' : Nat → Prop} {w w' : World} (hI : ∀ b, I b → I' b) (hw : ∀ b, I b → w'.heap[b]? = w.heap[b]?)
include hI hw
mutual
theorem crel_mono : ∀ (e : IV) (cs : List Value), crel I w e cs → crel I' w' e cs
  | .c _, _, h => h
  | .agg l, cs, h => crelAll_mono l cs h
  | .sl _ _ _ f, _, h => by
    obtain ⟨a, cap, h1, h2, h3, h4⟩ := h
    refine ⟨a, cap, h1, h2, h3, ?_⟩
    rcases h4 with h4 | ⟨b, o, h5, h6, h7⟩
    · exact .inl h4
    · refine .inr ⟨b, o, h5, hI b h6, fun j hj => ?_⟩
      obtain ⟨es, e1, e2, e3⟩ := h7 j hj
      exact ⟨es, e1, crel_mono (f j) es e2, cellsAt_congr (hw b h6) e3⟩
  | .ptr e, _, h => by
    obtain ⟨b, o, es, h1, h2, h3, h4⟩ := h
    exact ⟨b, o, es, h1, hI b h2, crel_mono e es h3, cellsAt_congr (hw b h2) h4⟩
  | .clo _ caps, _, h => by
    obtain ⟨vs, h1, h2⟩ := h
    exact ⟨vs, h1, crelAll_mono caps vs h2⟩
theorem crelAll_mono : ∀ (l : List IV) (cs : List Value), crelAll I w l cs → crelAll I' w' l cs
  | [], _, h => h
  | e :: l, _, h => by
    obtain ⟨v, r, h1, h2, h3⟩ := h
    exact ⟨v, r, h1, crel_mono e [v] h2, crelAll_mono l r h3⟩
end
theorem irel_mono (e : IV) (x : Value) (h : irel I w e x) : irel I' w' e x := by
  cases e with
  | agg l => obtain ⟨cs, h1, h2⟩ := h; exact ⟨cs, h1, crelAll_mono hI hw l cs h2⟩
  | c v => exact crel_mono hI hw _ _ h
  | sl s ex n f => exact crel_mono hI hw _ _ h
  | ptr e => exact crel_mono hI hw _ _ h
  | clo f l => exact crel_mono hI hw _ _ h
mutual
theorem arel_mono {X : Hd} : ∀ (v : AV) (x : Value), arel I w X v x → arel I' w' X v x
  | .i v, x, h => irel_mono hI hw v x h
  | .agg l, _, h => by obtain ⟨cs, h1, h2, h3⟩ := h; exact ⟨cs, h1, arelAll_mono l cs h2, h3⟩
  | .tup l, _, h => by obtain ⟨cs, h1, h2⟩ := h; exact ⟨cs, h1, arelAll_mono l cs h2⟩
  | .osl _ _, _, h => h
  | .oel _ _ _ _ _, _, h => h
  | .optr _ _, _, h => h
  | .clo _ l, _, h => by obtain ⟨cs, h1, h2⟩ := h; exact ⟨cs, h1, arelAll_mono l cs h2⟩
  | .omap _, _, h => h
  | .opt _ v, x, h => ⟨fun g => arel_mono v x (h.1 g), h.2⟩
  | .any, _, _ => trivial
theorem arelAll_mono {X : Hd} : ∀ (l : List AV) (cs : List Value), arelAll I w X l cs → arelAll I' w' X l cs
  | [], _, h => h
  | e :: l, _, h => by
    obtain ⟨v, r, h1, h2, h3⟩ := h
    exact ⟨v, r, h1, arel_mono e v h2, arelAll_mono l r h3⟩
end
end

theorem refsAll_cons {p : Nat → Option Nat → Bool} {e : AV} {l : List AV} : refsAll p (e :: l) = true ↔ refs p e = true ∧ refsAll p l = true := by
  simp only [refsAll]; cases refs p e <;> simp

section
variable {p q : Nat → Option Nat → Bool} (hpq : ∀ id row, p id row = true → q id row = true)
include hpq
mutual
theorem refs_mono : ∀ (v : AV), refs p v = true → refs q v = true
  | .i _, _ => rfl
  | .agg l, h => refsAll_mono l h
  | .tup l, h => refsAll_mono l h
  | .osl _ _, h => hpq _ _ h
  | .oel _ _ _ _ _, h => hpq _ _ h
  | .optr _ _, h => hpq _ _ h
  | .clo _ l, h => refsAll_mono l h
  | .omap _, h => hpq _ _ h
  | .opt _ v, h => refs_mono v h
  | .any, _ => rfl
theorem refsAll_mono : ∀ (l : List AV), refsAll p l = true → refsAll q l = true
  | [], _ => rfl
  | e :: l, h => by
    rw [refsAll_cons] at h ⊢
    exact ⟨refs_mono e h.1, refsAll_mono l h.2⟩
end
end

section
variable {I : Nat → Prop} {w : World} {X X' : Hd} {p : Nat → Option Nat → Bool} (hX : ∀ id row, p id row = true → X'.val id row = X.val id row)
include hX
mutual
theorem arel_congr : ∀ (v : AV) (x : Value), refs p v = true → arel I w X v x → arel I w X' v x
  | .i _, _, _, h => h
  | .agg l, _, hr, h => by obtain ⟨cs, h1, h2, h3⟩ := h; exact ⟨cs, h1, arelAll_congr l cs hr h2, h3⟩
  | .tup l, _, hr, h => by obtain ⟨cs, h1, h2⟩ := h; exact ⟨cs, h1, arelAll_congr l cs hr h2⟩
  | .osl id row, x, hr, h => by have := hX id row hr; simp only [arel, this]; exact h
  | .oel id row s j off, x, hr, h => by have := hX id row hr; simp only [arel, this]; exact h
  | .optr id off, x, hr, h => by have := hX id none hr; simp only [arel, this]; exact h
  | .clo _ l, _, hr, h => by obtain ⟨cs, h1, h2⟩ := h; exact ⟨cs, h1, arelAll_congr l cs hr h2⟩
  | .omap id, x, hr, h => by have := hX id none hr; simp only [arel, this]; exact h
  | .opt _ v, x, hr, h => ⟨fun g => arel_congr v x hr (h.1 g), h.2⟩
  | .any, _, _, _ => trivial
theorem arelAll_congr : ∀ (l : List AV) (cs : List Value), refsAll p l = true → arelAll I w X l cs → arelAll I w X' l cs
  | [], _, _, h => h
  | e :: l, _, hr, h => by
    obtain ⟨v, r, h1, h2, h3⟩ := h
    rw [refsAll_cons] at hr
    exact ⟨v, r, h1, arel_congr e v hr.1 h2, arelAll_congr l r hr.2 h3⟩
end
end

theorem ownsRow_congr {w w' : World} {B : Nat} {e : TypeId} {s : Nat} {v : Value} {n : Nat} {xs : List Value}
    (h : ∀ g, v.ownBlock = some g → w'.heap[g]? = w.heap[g]?) (ho : w.ownsRow B e s v n xs) : w'.ownsRow B e s v n xs := by
  refine ⟨ho.1, ?_⟩
  rcases ho.2 with hn | ⟨g, cap, cur, rfl, hb, hgg, rest⟩
  · exact .inl hn
  · exact .inr ⟨g, cap, cur, rfl, hb, by rw [h g rfl]; exact hgg, rest⟩

theorem blk_of_ownBlock {X : Hd} {id : Nat} {row : Option Nat} {g : Nat} (h : (X.val id row).ownBlock = some g) : X.blk id row = some g := by
  unfold Hd.blk; unfold Value.ownBlock at h
  split at h <;> simp_all

theorem rowrel_congr {I I' : Nat → Prop} {w w' : World} {t : TypeId} {s : Nat} {v : Value} {n : Nat} {f : Nat → IV} (hI : ∀ b, I b → I' b) (hw : ∀ b, I b → w'.heap[b]? = w.heap[b]?)
    (h : ∀ g, v.ownBlock = some g → w'.heap[g]? = w.heap[g]?) (hr : rowrel I w t s v n f) : rowrel I' w' t s v n f := by
  obtain ⟨xs, h1, h2⟩ := hr
  refine ⟨xs, ownsRow_congr h h1, fun j hj => ?_⟩
  obtain ⟨es, e1, e2, e3⟩ := h2 j hj
  exact ⟨es, e1, crel_mono hI hw _ _ e2, e3⟩

end Go.AM

namespace Go.AM
open Go.RowKit

theorem blk_lt_of_orel {P : Program} {I : Nat → Prop} {w : World} {X : Hd} {H : List AObj} (h : HOk P I w X H) {id : Nat} {row : Option Nat} {b : Nat} (hl : live H id row) (hb : X.blk id row = some b) : b < w.heap.size := by
  unfold live at hl
  have hlt : ∀ {o : Obj} {b : Nat}, w.heap[b]? = some o → b < w.heap.size := fun h => (Array.getElem?_eq_some_iff.1 h).1
  have hrow : ∀ {t s v n xs}, w.ownsRow 0 t s v n xs → ∀ g, v.ownBlock = some g → g < w.heap.size := fun h g hg => (h.lt g hg).2
  have hown : ∀ {v : Value} {b : Nat} {t s n xs}, w.ownsRow 0 t s v n xs → v = X.val id row → X.blk id row = some b → b < w.heap.size := by
    intro v b t s n xs ho hv hb
    refine hrow ho b ?_
    unfold Hd.blk at hb
    rw [← hv] at hb
    rcases ho.2 with ⟨rfl, _⟩ | ⟨g, cap, cur, rfl, _⟩
    · simp at hb
    · simpa [Value.ownBlock] using hb
  cases ho : H[id]? with
  | none => rw [ho] at hl; exact hl.elim
  | some o =>
    have hr := h.obj id o ho
    rw [ho] at hl
    cases o with
    | dead => exact hl.elim
    | box t cells =>
      obtain rfl : row = none := hl
      obtain ⟨b', cs, h1, h2, _⟩ := hr
      unfold Hd.blk at hb; rw [h1] at hb; simp at hb; subst hb; exact hlt h2
    | arr fx t s n f =>
      obtain rfl : row = none := hl
      obtain ⟨xs, h1, _⟩ := hr
      exact hown h1 rfl hb
    | arr2 fx t tr sr n g hole =>
      obtain ⟨⟨xs, h1, _⟩, h2⟩ := hr
      rcases hl with rfl | ⟨j, rfl, hj, hh⟩
      · exact hown h1 rfl hb
      · obtain ⟨ys, h3, _⟩ := h2 j hj hh
        exact hown h3 rfl hb
    | map k et card dom val =>
      obtain rfl : row = none := hl
      obtain ⟨r, es, clock, h1, h2, _⟩ := hr
      unfold Hd.blk at hb; rw [h1] at hb; simp at hb; subst hb; exact hlt h2

theorem orel_frame {P : Program} {I I' : Nat → Prop} {w w' : World} {X : Hd} {n n' id : Nat} {o : AObj} (hI : ∀ b, I b → I' b) (hw : ∀ b, I b → w'.heap[b]? = w.heap[b]?)
    (hn : n ≤ n') (H : List AObj) (hH : H[id]? = some o) (hb : ∀ row b, live H id row → X.blk id row = some b → w'.heap[b]? = w.heap[b]?) (h : orel P I w X n id o) : orel P I' w' X n' id o := by
  have hl : ∀ row, live H id row ↔ liveObj o row := by intro row; unfold live; rw [hH]
  cases o with
  | dead => trivial
  | box t cells =>
    obtain ⟨b, cs, h1, h2, h3, h4, h5⟩ := h
    refine ⟨b, cs, h1, ?_, arelAll_mono hI hw _ _ h3, h4, refsAll_mono (fun id row h => ?_) _ h5⟩
    · rw [hb none b ((hl none).2 rfl) (by simp [Hd.blk, h1])]; exact h2
    · simp only [below, Nat.blt_eq] at h ⊢; omega
  | arr fx t s n f => exact rowrel_congr hI hw (fun g hg => hb none g ((hl none).2 rfl) (blk_of_ownBlock hg)) h
  | arr2 fx t tr sr n g hole =>
    obtain ⟨⟨xs, h1, h2⟩, h3⟩ := h
    refine ⟨⟨xs, ownsRow_congr (fun g hg => hb none g ((hl none).2 (.inl rfl)) (blk_of_ownBlock hg)) h1, h2⟩, fun j hj hh => ?_⟩
    exact rowrel_congr hI hw (fun g hg => hb (some j) g ((hl _).2 (.inr ⟨j, rfl, hj, hh⟩)) (blk_of_ownBlock hg)) (h3 j hj hh)
  | map k et card dom val =>
    obtain ⟨r, es, clock, h1, h2, h3, h4, h5⟩ := h
    refine ⟨r, es, clock, h1, ?_, h3, h4, fun y => ⟨fun hd => ?_, fun hd => ?_⟩⟩
    · rw [hb none r ((hl none).2 rfl) (by simp [Hd.blk, h1])]; exact h2
    · obtain ⟨e, e1, e2⟩ := (h5 y).1 hd
      exact ⟨e, e1, irel_mono hI hw _ _ e2⟩
    · obtain ⟨h6, z, h7, h8⟩ := (h5 y).2 hd
      exact ⟨h6, z, h7, irel_mono hI hw _ _ h8⟩

theorem HOk.frame {P : Program} {I I' : Nat → Prop} {w w' : World} {X : Hd} {H : List AObj} (h : HOk P I w X H) (hI : ∀ b, I b → I' b) (hw : ∀ b, I b → w'.heap[b]? = w.heap[b]?)
    (hb : ∀ id row b, live H id row → X.blk id row = some b → w'.heap[b]? = w.heap[b]?) (hoff : ∀ id row b, live H id row → X.blk id row = some b → ¬ I' b) : HOk P I' w' X H :=
  ⟨fun id o ho => orel_frame hI hw (Nat.le_refl _) H ho (hb id) (h.obj id o ho), h.inj, hoff⟩

theorem Keep.refl (O : Nat → Prop) (w : World) : Keep O w w := ⟨rfl, rfl, rfl, Nat.le_refl _, fun _ _ _ => rfl⟩
theorem Keep.trans {O : Nat → Prop} {a b c : World} (h : Keep O a b) (k : Keep O b c) : Keep O a c :=
  ⟨k.os.trans h.os, k.tape.trans h.tape, k.output.trans h.output, Nat.le_trans h.size k.size, fun i hi ho => (k.block i (Nat.lt_of_lt_of_le hi h.size) ho).trans (h.block i hi ho)⟩

/-- a step that writes nothing but (perhaps) new blocks and blocks of O or from the base on -/
theorem Keep.step {O : Nat → Prop} {a b c : World} (h : Keep O a b) (os : c.os = b.os) (tape : c.tape = b.tape) (output : c.output = b.output) (size : b.heap.size ≤ c.heap.size)
    (hb : ∀ k, k < b.heap.size → ¬ O k → k < a.heap.size → c.heap[k]? = b.heap[k]?) : Keep O a c :=
  ⟨os.trans h.os, tape.trans h.tape, output.trans h.output, Nat.le_trans h.size size, fun i hi ho => (hb i (Nat.lt_of_lt_of_le hi h.size) ho hi).trans (h.block i hi ho)⟩

/-- worlds that hold all that this one holds -/
def Same (w w' : World) : Prop := w'.os = w.os ∧ w'.tape = w.tape ∧ w'.output = w.output ∧ w.heap.size ≤ w'.heap.size ∧ ∀ b, b < w.heap.size → w'.heap[b]? = w.heap[b]?

theorem Same.refl (w : World) : Same w w := ⟨rfl, rfl, rfl, Nat.le_refl _, fun _ _ => rfl⟩
theorem Same.trans {a b c : World} (h : Same a b) (k : Same b c) : Same a c :=
  ⟨k.1.trans h.1, k.2.1.trans h.2.1, k.2.2.1.trans h.2.2.1, Nat.le_trans h.2.2.2.1 k.2.2.2.1, fun i hi => (k.2.2.2.2 i (Nat.lt_of_lt_of_le hi h.2.2.2.1)).trans (h.2.2.2.2 i hi)⟩
theorem Same.alloc (w : World) (o : Obj) : Same w (w.alloc o) := ⟨rfl, rfl, rfl, by simp, fun b hb => Below.heap_alloc w o b hb⟩
theorem Same.drew (w : World) : Same w w.drew := ⟨rfl, rfl, rfl, Nat.le_refl _, fun _ _ => rfl⟩

variable {C : Ctx} {env : Env} {H : List AObj} {I : Nat → Prop} {X : Hd} {tmps : Array Value} {w w' : World}

theorem Rel.world (h : Rel C env H I X tmps w) (hs : Same w w') : Rel C env H I X tmps w' := by
  have hw : ∀ b, I b → w'.heap[b]? = w.heap[b]? := fun b hb => hs.2.2.2.2 b (h.ilt b hb)
  exact ⟨h.size, fun k v hk => let ⟨a, b, c⟩ := h.env k v hk; ⟨a, b, arel_mono (fun _ h => h) hw _ _ c⟩,
    h.hok.frame (fun _ h => h) hw (fun id row b hl hb => hs.2.2.2.2 b (blk_lt_of_orel h.hok hl hb)) h.hok.off, h.sub, h.sup, fun b hb => Nat.lt_of_lt_of_le (h.ilt b hb) hs.2.2.2.1,
    h.own, h.keep.step hs.1 hs.2.1 hs.2.2.1 hs.2.2.2.1 (fun k hk _ _ => hs.2.2.2.2 k hk), h.hfx⟩

theorem get_cons (k k' : Nat) (v : AV) (env : Env) : get ((k', v) :: env) k = if k = k' then some v else get env k := by
  show (match Nat.beq k k' with | true => some v | false => get env k) = _
  by_cases h : k = k'
  · subst h; simp
  · have : Nat.beq k k' = false := by cases hb : Nat.beq k k' with | false => rfl | true => exact (h (Nat.eq_of_beq_eq_true hb)).elim
    rw [this, if_neg h]

theorem Rel.put (h : Rel C env H I X tmps w) {d : Nat} {v : AV} {x : Value} (hd : d < C.N) (hr : refs (below H.length) v = true) (hx : arel I w X v x) :
    Rel C ((d, v) :: env) H I X (tmps.setIfInBounds d x) w := by
  refine ⟨by simpa using h.size, fun k u hk => ?_, h.hok, h.sub, h.sup, h.ilt, h.own, h.keep, h.hfx⟩
  rw [get_cons] at hk
  split at hk
  · rename_i hkd
    subst hkd
    cases hk
    refine ⟨hd, hr, ?_⟩
    have : (tmps.setIfInBounds k x).getD k undef = x := by simp [h.size, hd]
    rw [this]; exact hx
  · rename_i hkd
    obtain ⟨h1, h2, h3⟩ := h.env k u hk
    refine ⟨h1, h2, ?_⟩
    have : (tmps.setIfInBounds d x).getD k undef = tmps.getD k undef := by simp [Ne.symm hkd]
    rw [this]; exact h3

/-- new object -/
def Hd.put (X : Hd) (id : Nat) (row : Option Nat) (v : Value) : Hd := ⟨fun i r => if i = id ∧ r = row then v else X.val i r⟩

theorem Hd.put_same (X : Hd) (id : Nat) (row : Option Nat) (v : Value) : (X.put id row v).val id row = v := by simp [Hd.put]
theorem Hd.put_other (X : Hd) (id : Nat) (row : Option Nat) (v : Value) {id' : Nat} {row' : Option Nat} (h : ¬ (id' = id ∧ row' = row)) : (X.put id row v).val id' row' = X.val id' row' := by simp [Hd.put, h]

theorem live_push {o : AObj} {id : Nat} {row : Option Nat} (h : id < H.length) : live (H ++ [o]) id row ↔ live H id row := by
  unfold live; rw [List.getElem?_append_left h]

theorem live_lt {id : Nat} {row : Option Nat} (h : live H id row) : id < H.length := by
  unfold live at h
  rcases Nat.lt_or_ge id H.length with h1 | h1
  · exact h1
  · rw [List.getElem?_eq_none h1] at h; exact h.elim

end Go.AM

namespace Go.AM
open Go.RowKit

inductive Ty where
  | bool | int (k : IntKind) | str | ptr (e : TypeId) | slice (e : TypeId) | struct (fs : List (Nat × TypeId)) (eqk : Bool) | map (k e : TypeId) | func | other

structure TI where
  ty : Ty
  size : Nat
  bytes : Nat
  zero : List Value

abbrev TT := List (Option TI)
def TT.at : TT → Nat → Option TI
  | [], _ => none
  | x :: _, 0 => x
  | _ :: r, t + 1 => TT.at r t

def TI.zv (i : TI) : Value := match i.ty, i.zero with
  | .struct _ _, z => .agg z.toArray
  | _, v :: _ => v
  | _, [] => undef

def tyOk (P : Program) (t : TypeId) : Ty → Prop
  | .bool => P.underlying t = some .bool
  | .int k => P.underlying t = some (.int k)
  | .str => P.underlying t = some .string
  | .ptr e => P.underlying t = some (.pointer e)
  | .slice e => P.underlying t = some (.slice e)
  | .struct fs eqk => ∃ arr : Array Field, P.underlying t = some (.struct arr) ∧ arr.toList.map (fun f => (f.offset, f.type)) = fs ∧
      (eqk = true → P.stoodInHeld t = false ∧ P.eqGuardType P.depth t = false ∧ ∀ f ∈ arr.toList, f.name ≠ "_" ∧ ∃ k, P.underlying f.type = some (.int k))
  | .map k e => P.underlying t = some (.map k e)
  | .func => ∃ a b c, P.underlying t = some (.func a b c)
  | .other => True

def isStruct : Ty → Bool
  | .struct _ _ => true
  | _ => false

structure TTok (P : Program) (T : TT) : Prop where
  ok : ∀ t i, T.at t = some i → tyOk P t i.ty ∧ ∃ info, P.info? t = some info ∧ info.size = i.size ∧ info.bytes = i.bytes ∧ info.zero = some i.zv ∧ i.zero.length = i.size ∧ (∀ v ∈ i.zero, v.oneCell' = true)

/-! ### operands -/
def allImm : List AV → Option (List IV)
  | [] => some []
  | .i v :: r => match allImm r with | some l => some (v :: l) | none => none
  | _ :: _ => none

def mkAgg (l : List AV) : AV := match allImm l with | some m => .i (.agg m) | none => .agg l

def constAV : Value → Option AV
  | .agg cs => match cs.toList.all Value.oneCell' with | true => some (.i (.agg (cs.toList.map .c))) | false => none
  | .tuple _ => none
  | .func (.func f) first caps => match first.toList, caps.toList with | [], [] => some (.i (.clo f [])) | _, _ => none
  | .func _ _ _ => none
  | v => some (.i (.c v))

def opd (env : Env) : Operand → Option AV
  | .const v => constAV v
  | .func f => some (.i (.clo f []))
  | .tmp t => match get env t with
    | some (.opt _ v) => some v
    | some .any => none
    | some v => some v
    | none => none
  | .global _ => none

/-- what must hold for an operand to be there, under a guard -/
def opdOb (env : Env) (g : Option Bool) : Operand → List Bool
  | .tmp t => match get env t with
    | some (.opt b _) => (match g with | none => [b] | some a => [!a || b])
    | _ => []
  | _ => []

def allTrue : List Bool → Prop
  | [] => True
  | b :: r => b = true ∧ allTrue r

theorem allTrue_append {l r : List Bool} : allTrue (l ++ r) ↔ allTrue l ∧ allTrue r := by
  induction l with
  | nil => simp [allTrue]
  | cons b l ih => simp [allTrue, ih, and_assoc]

/-! ### quiet operations -/
def inR (k : IntKind) (x : Int) : Bool := decide (k.min ≤ x ∧ x ≤ k.max)

def bitI (op : BinOp) (k : IntKind) (x y : Int) : Int :=
  let a := BitVec.ofInt k.bits x
  let b := BitVec.ofInt k.bits y
  match op with
  | .and => k.wrap (a &&& b).toNat
  | .or => k.wrap (a ||| b).toNat
  | .xor => k.wrap (a ^^^ b).toNat
  | _ => k.wrap (a &&& ~~~b).toNat
def shlI (k : IntKind) (x y : Int) : Int := k.wrap (x * 2 ^ (min y.toNat k.bits))
def shrI (k : IntKind) (x y : Int) : Int := x.fdiv (2 ^ (min y.toNat k.bits))

def arith (nw : Bool) (k : IntKind) (z : Int) : IV × List Bool := match nw with
  | true => (.c (.int k z), [inR k z])
  | false => (.c (.int k (k.wrap z)), [])

def binSame (nw : Bool) (op : BinOp) (k : IntKind) (x y : Int) : Option (IV × List Bool) :=
  match op with
  | .add => some (arith nw k (x + y))
  | .sub => some (arith nw k (x - y))
  | .mul => some (arith nw k (x * y))
  | .quo => some (match nw with
    | true => (.c (.int k (x.tdiv y)), [decide (y ≠ 0), inR k (x.tdiv y)])
    | false => (.c (.int k (k.wrap (x.tdiv y))), [decide (y ≠ 0)]))
  | .rem => some (.c (.int k (x.tmod y)), [decide (y ≠ 0)])
  | .and => some (.c (.int k (bitI .and k x y)), [])
  | .or => some (.c (.int k (bitI .or k x y)), [])
  | .xor => some (.c (.int k (bitI .xor k x y)), [])
  | .andNot => some (.c (.int k (bitI .andNot k x y)), [])
  | .lss => some (.c (.bool (decide (x < y))), [])
  | .leq => some (.c (.bool (decide (x ≤ y))), [])
  | .gtr => some (.c (.bool (decide (x > y))), [])
  | .geq => some (.c (.bool (decide (x ≥ y))), [])
  | .eql => some (.c (.bool (x == y)), [])
  | .neq => some (.c (.bool (x != y)), [])
  | .shl => none
  | .shr => none

def binInt (nw : Bool) (op : BinOp) (k : IntKind) (x : Int) (k' : IntKind) (y : Int) : Option (IV × List Bool) :=
  match op with
  | .shl => some (.c (.int k (shlI k x y)), [decide (0 ≤ y)])
  | .shr => some (.c (.int k (shrI k x y)), [decide (0 ≤ y)])
  | op => match decide (k = k') with
    | true => binSame nw op k x y
    | false => none

def isInt : IV → Option (IntKind × Int)
  | .c (.int k n) => some (k, n)
  | _ => none

/-- equal structs of integers -/
def aggEq : List IV → List IV → Option Bool
  | [], [] => some true
  | .c (.int k a) :: l, .c (.int k' b) :: m => match decide (k = k'), aggEq l m with
    | true, some r => some (a == b && r)
    | _, _ => none
  | _, _ => none

def ptrNil : AV → Option Bool   -- is this pointer nil?
  | .i (.c (.pointer none)) => some true
  | .i (.ptr _) => some false
  | .optr _ _ => some false
  | _ => none

def slNil (H : List AObj) : AV → Option (Bool × List Bool)   -- is this slice nil?
  | .i (.c (.slice none _ _)) => some (true, [])
  | .i (.sl _ _ n _) => some (false, [decide (n ≠ 0)])
  | .osl id none => match H[id]? with
    | some (.arr _ _ _ n _) => some (false, [decide (n ≠ 0)])
    | _ => none
  | _ => none

/-- offsets 0, 1, 2 .. of a struct's fields -/
def offsFrom : Nat → List (Nat × TypeId) → Bool
  | _, [] => true
  | k, (o, _) :: r => match Nat.beq k o with | true => offsFrom (k + 1) r | false => false

def eqv (T : TT) (H : List AObj) (t : TypeId) (x y : AV) : Option (Bool × List Bool) :=
  match T.at t with
  | some ⟨.int _, _, _, _⟩ => none
  | some ⟨.bool, _, _, _⟩ => match x, y with
    | .i (.c (.bool a)), .i (.c (.bool b)) => some (a == b, [])
    | _, _ => none
  | some ⟨.str, _, _, _⟩ => match x, y with
    | .i (.c (.string a)), .i (.c (.string b)) => some (a.toList == b.toList, [])
    | _, _ => none
  | some ⟨.struct fs true, _, _, _⟩ => match x, y with
    | .i (.agg l), .i (.agg m) => match offsFrom 0 fs, Nat.beq fs.length l.length, aggEq l m with
      | true, true, some r => some (r, [])
      | _, _, _ => none
    | _, _ => none
  | some ⟨.ptr _, _, _, _⟩ => match y with
    | .i (.c (.pointer none)) => match ptrNil x with | some r => some (r, []) | none => none
    | _ => none
  | some ⟨.slice _, _, _, _⟩ => match y with
    | .i (.c (.slice none _ _)) => slNil H x
    | _ => none
  | _ => none

def bin (nw : Bool) (T : TT) (H : List AObj) (op : BinOp) (t : TypeId) (x y : AV) : Option (IV × List Bool) :=
  match x with
  | .i (.c (.int k a)) => match y with
    | .i (.c (.int k' b)) => binInt nw op k a k' b
    | _ => none
  | _ => match op with
    | .eql => match eqv T H t x y with | some (r, obs) => some (.c (.bool r), obs) | none => none
    | .neq => match eqv T H t x y with | some (r, obs) => some (.c (.bool (!r)), obs) | none => none
    | .add => match x, y with
      | .i (.c (.string a)), .i (.c (.string b)) => some (.c (.string (a ++ b)), [decide (a.size + b.size ≤ 4611686018427387904)])
      | _, _ => none
    | _ => none

def un (op : UnOp) (x : AV) : Option (IV × List Bool) :=
  match op, x with
  | .not, .i (.c (.bool b)) => some (.c (.bool !b), [])
  | .neg, .i (.c (.int k n)) => some (.c (.int k (k.wrap (0 - n))), [])
  | _, _ => none

end Go.AM

namespace Go.AM
open Go.RowKit

theorem irel_c {I : Nat → Prop} {w : World} {v x : Value} : irel I w (.c v) x ↔ x = v ∧ v.oneCell' = true := by
  simp [irel, crel]

theorem wrap_of_inR {k : IntKind} {z : Int} (h : inR k z = true) : k.wrap z = z := by
  unfold inR at h
  simp only [decide_eq_true_eq] at h
  obtain ⟨h1, h2⟩ := h
  cases k <;> simp [IntKind.wrap, IntKind.min, IntKind.max, IntKind.signed, IntKind.bits] at * <;> (try split) <;> omega

variable {P : Program} {T : TT} {I : Nat → Prop} {w : World} {X : Hd} {H : List AObj}

theorem binInt_key {nw : Bool} {op : BinOp} {k k' : IntKind} {a b : Int} {v : IV} {obs : List Bool} (h1 : op ≠ .shl) (h2 : op ≠ .shr)
    (h : binInt nw op k a k' b = some (v, obs)) : k = k' ∧ binSame nw op k a b = some (v, obs) := by
  have h3 : (match decide (k = k') with | true => binSame nw op k a b | false => none) = some (v, obs) := by
    cases op <;> first | exact h | exact (h1 rfl).elim | exact (h2 rfl).elim
  by_cases hk : k = k'
  · subst hk; simp only [decide_true] at h3; exact ⟨rfl, h3⟩
  · simp only [hk, decide_false] at h3; cases h3

theorem binInt_sound {nw : Bool} {op : BinOp} {k k' : IntKind} {a b : Int} {v : IV} {obs : List Bool} (t : TypeId) (xo yo : Operand)
    (h : binInt nw op k a k' b = some (v, obs)) (ho : allTrue obs) (w' : World) :
    ∃ z, v = .c z ∧ z.oneCell' = true ∧ (do eqGuard op t xo yo (.int k a) (.int k' b); binOp op t (.int k a) (.int k' b)).run P w' = .ok z w' := by
  have hg : (eqGuard op t xo yo (.int k a) (.int k' b)).run P w' = .ok () w' := by cases op <;> simp [eqGuard]
  simp only [Sem.run_bind, hg, Result.andThen_ok]
  by_cases h1 : op = .shl
  · subst h1
    simp only [binInt, Option.some.injEq, Prod.mk.injEq] at h
    obtain ⟨rfl, rfl⟩ := h
    simp only [allTrue, decide_eq_true_eq, and_true] at ho
    refine ⟨_, rfl, rfl, ?_⟩
    have : ¬ b < 0 := by omega
    simp [binOp, Op.shift, this, shlI]
  by_cases h2 : op = .shr
  · subst h2
    simp only [binInt, Option.some.injEq, Prod.mk.injEq] at h
    obtain ⟨rfl, rfl⟩ := h
    simp only [allTrue, decide_eq_true_eq, and_true] at ho
    refine ⟨_, rfl, rfl, ?_⟩
    have : ¬ b < 0 := by omega
    simp [binOp, Op.shift, this, shrI]
  obtain ⟨hkk, h4⟩ := binInt_key h1 h2 h
  clear h
  subst hkk
  have h := h4
  clear h4
  cases op
  case shl => exact (h1 rfl).elim
  case shr => exact (h2 rfl).elim
  all_goals (unfold binSame at h; simp only [Option.some.injEq, Prod.mk.injEq] at h)
  case add | sub | mul =>
    cases nw <;> simp only [arith, Prod.mk.injEq] at h <;> obtain ⟨rfl, rfl⟩ := h
    · exact ⟨_, rfl, rfl, by simp [binOp, Op.intArith]⟩
    · simp only [allTrue, and_true] at ho
      refine ⟨_, rfl, rfl, ?_⟩
      simp [binOp, Op.intArith, wrap_of_inR ho]
  case quo =>
    cases nw <;> simp only [Prod.mk.injEq] at h <;> obtain ⟨rfl, rfl⟩ := h
    · simp only [allTrue, decide_eq_true_eq, and_true] at ho
      exact ⟨_, rfl, rfl, by simp [binOp, Op.intDiv, ho]⟩
    · simp only [allTrue, decide_eq_true_eq, and_true] at ho
      exact ⟨_, rfl, rfl, by simp [binOp, Op.intDiv, ho.1, wrap_of_inR ho.2]⟩
  case rem =>
    obtain ⟨rfl, rfl⟩ := h
    simp only [allTrue, decide_eq_true_eq, and_true] at ho
    exact ⟨_, rfl, rfl, by simp [binOp, Op.intDiv, ho]⟩
  case and | or | xor | andNot =>
    obtain ⟨rfl, rfl⟩ := h
    exact ⟨_, rfl, rfl, by simp [binOp, Op.intBits, bitI]⟩
  case lss | leq | gtr | geq | eql | neq =>
    obtain ⟨rfl, rfl⟩ := h
    exact ⟨_, rfl, rfl, by simp [binOp, Op.intCmp]⟩

theorem crelAll_ints {l : List IV} {cs : List Value} (h : crelAll I w l cs) : cs.length = l.length := by
  induction l generalizing cs with
  | nil => simp only [crelAll] at h; subst h; rfl
  | cons e l ih => obtain ⟨v, r, rfl, _, h2⟩ := h; simp [ih h2]

theorem run_part_at (P : Program) (w : World) (t : TypeId) (cs : Array Value) (o : Nat) (v : Value) (k : IntKind) (ht : P.underlying t = some (.int k)) (h : cs[o]? = some v) :
    (part t cs o).run P w = .ok v w := by
  simp [part, isAgg, run_underlying ht, h]

theorem eqFields_ints (P : Program) (w0 : World) (d : Nat) (xs ys : List Value) : ∀ (fs : List Field) (k : Nat) (l m : List IV) (r : Bool),
    (∀ f ∈ fs, f.name ≠ "_" ∧ ∃ k, P.underlying f.type = some (.int k)) → offsFrom k (fs.map fun f => (f.offset, f.type)) = true → fs.length = l.length →
    crelAll I w l (xs.drop k) → crelAll I w m (ys.drop k) → aggEq l m = some r →
    (Op.eqFields (d + 1) xs.toArray ys.toArray fs).run P w0 = .ok r w0 := by
  intro fs
  induction fs with
  | nil =>
    intro k l m r _ _ hl _ _ h
    have : l = [] := List.eq_nil_of_length_eq_zero (by simpa using hl.symm)
    subst this
    cases m <;> simp [aggEq] at h
    subst h
    simp [Op.eqFields]
  | cons f fs ih =>
    intro k l m r hf ho hl hx hy h
    cases l with
    | nil => simp at hl
    | cons e l =>
      cases m with
      | nil => cases e <;> simp [aggEq] at h
      | cons e' m =>
        obtain ⟨v, rx, hxs, hv, hxr⟩ := hx
        obtain ⟨u, ry, hys, hu, hyr⟩ := hy
        have hx1 : xs[k]? = some v := by have := congrArg (·[0]?) hxs; simpa using this
        have hy1 : ys[k]? = some u := by have := congrArg (·[0]?) hys; simpa using this
        have hxr' : xs.drop (k + 1) = rx := by have := congrArg List.tail hxs; simpa using this
        have hyr' : ys.drop (k + 1) = ry := by have := congrArg List.tail hys; simpa using this
        obtain ⟨hn, kk, hk⟩ := hf f (by simp)
        simp only [List.map_cons, offsFrom] at ho
        split at ho
        · rename_i hb
          have hoff : k = f.offset := Nat.eq_of_beq_eq_true hb
          have e1 : (part f.type xs.toArray f.offset).run P w0 = .ok v w0 := run_part_at P w0 _ _ _ v kk hk (by rw [← hoff]; simpa using hx1)
          have e2 : (part f.type ys.toArray f.offset).run P w0 = .ok u w0 := run_part_at P w0 _ _ _ u kk hk (by rw [← hoff]; simpa using hy1)
          unfold aggEq at h
          split at h
          · rename_i h1 h2; cases h1
          · rename_i h1 h2
            cases h1; cases h2
            split at h
            · rename_i kx a ky b _ _ r2 hkk hag
              simp only [Option.some.injEq] at h
              simp only [decide_eq_true_eq] at hkk
              subst hkk
              simp only [crel, List.cons.injEq, and_true] at hv hu
              obtain ⟨rfl, _⟩ := hv
              obtain ⟨rfl, _⟩ := hu
              have h3 := ih (k + 1) l m r2 (fun f hf' => hf f (by simp [hf'])) ho (by simpa using hl) (by rw [hxr']; exact hxr) (by rw [hyr']; exact hyr) hag
              simp only [Op.eqFields, ne_eq, hn, not_false_eq_true, if_true, Sem.run_bind, e1, e2, Result.andThen_ok, run_equalIn_int w0 d f.type kx kk a b hk, Sem.run_ite, Sem.run_pure]
              rw [← h]
              cases hab : (a == b)
              · simp
              · simpa using h3
            · cases h
          · cases h
        · cases ho

theorem ptrNil_sound {v : AV} {x : Value} (hx : arel I w X v x) {r : Bool} (h : ptrNil v = some r) : ∃ a, x = .pointer a ∧ r = a.isNone := by
  unfold ptrNil at h
  split at h
  · cases h; obtain ⟨rfl, _⟩ := irel_c.1 hx; exact ⟨_, rfl, rfl⟩
  · cases h; obtain ⟨b, o, es, h1, _⟩ := hx; simp only [List.cons.injEq, and_true] at h1; subst h1; exact ⟨_, rfl, rfl⟩
  · cases h; obtain ⟨b, _, rfl⟩ := hx; exact ⟨_, rfl, rfl⟩
  · cases h

theorem slNil_sound (hok : HOk P I w X H) {v : AV} {x : Value} (hx : arel I w X v x) {r : Bool} {obs : List Bool} (h : slNil H v = some (r, obs)) (ho : allTrue obs) :
    ∃ a n c, x = .slice a n c ∧ r = a.isNone := by
  unfold slNil at h
  split at h
  · cases h; obtain ⟨rfl, _⟩ := irel_c.1 hx; exact ⟨_, _, _, rfl, rfl⟩
  · cases h
    obtain ⟨a, cap, h1, _, _, h4⟩ := hx
    simp only [List.cons.injEq, and_true] at h1; subst h1
    simp only [allTrue, decide_eq_true_eq, and_true] at ho
    rcases h4 with h4 | ⟨b, o, rfl, _⟩
    · exact (ho h4).elim
    · exact ⟨_, _, _, rfl, rfl⟩
  · split at h
    · rename_i id _ _ _ n _ hid
      cases h
      obtain ⟨rfl, a, m, c, h2⟩ := hx
      obtain ⟨xs, h3, _⟩ := hok.obj _ _ hid
      simp only [allTrue, decide_eq_true_eq, and_true] at ho
      rcases h3.2 with ⟨_, h4⟩ | ⟨g, cap, cur, h4, _⟩
      · exact (ho h4).elim
      · exact ⟨_, _, _, h4, rfl⟩
    · cases h
  · cases h

theorem eqv_sound (hT : TTok P T) (hok : HOk P I w X H) {t : TypeId} {vx vy : AV} {x y : Value} (hx : arel I w X vx x) (hy : arel I w X vy y) {r : Bool} {obs : List Bool}
    (h : eqv T H t vx vy = some (r, obs)) (ho : allTrue obs) (xo yo : Operand) (op : BinOp) (w' : World) :
    (eqGuard op t xo yo x y).run P w' = .ok () w' ∧ (binOp .eql t x y).run P w' = .ok (.bool r) w' ∧ (binOp .neq t x y).run P w' = .ok (.bool (!r)) w' := by
  unfold eqv at h
  split at h
  · cases h
  · rename_i hty
    split at h
    · cases h
      obtain ⟨rfl, _⟩ := irel_c.1 hx
      obtain ⟨rfl, _⟩ := irel_c.1 hy
      have hu : P.underlying t = some .bool := (hT.ok t _ hty).1
      refine ⟨by cases op <;> simp [eqGuard], run_eql_bool w' t _ _ hu, run_neq_bool w' t _ _ hu⟩
    · cases h
  · split at h
    · cases h
      obtain ⟨rfl, _⟩ := irel_c.1 hx
      obtain ⟨rfl, _⟩ := irel_c.1 hy
      refine ⟨by cases op <;> simp [eqGuard], by simp [binOp, Op.stringOp], by simp [binOp, Op.stringOp]⟩
    · cases h
  · rename_i fs _ _ _ hty
    split at h
    · rename_i l m
      split at h
      · rename_i r' h1 h2 h3
        cases h
        obtain ⟨xs, rfl, hxs⟩ := hx
        obtain ⟨ys, rfl, hys⟩ := hy
        obtain ⟨arr, hu, hfs, he⟩ := (hT.ok t _ hty).1
        obtain ⟨hs, hg, hf⟩ := he rfl
        have hfo : P.fieldsOf t = arr := by simp [Program.fieldsOf, hu]
        have hrun : ∀ w, (Op.equal t (.agg xs.toArray) (.agg ys.toArray)).run P w = .ok r w := by
          intro w
          unfold Op.equal Op.maxDepth
          rw [run_equalIn_struct w 9999 t _ _ (by rw [hfo]; exact hu) hs, hfo]
          exact eqFields_ints P w 9998 xs ys arr.toList 0 l m r hf (by rw [hfs]; exact h1) (by have := Nat.eq_of_beq_eq_true h2; rw [← this, ← hfs]; simp) (by simpa using hxs) (by simpa using hys) h3
        have hrun' := hrun w'
        refine ⟨by cases op <;> simp [eqGuard, hg], ?_, ?_⟩
        · show (do pure (.bool (← Op.equal t (.agg xs.toArray) (.agg ys.toArray))) : Sem Value).run P w' = _
          simp [hrun']
        · show (do pure (.bool (!(← Op.equal t (.agg xs.toArray) (.agg ys.toArray)))) : Sem Value).run P w' = _
          simp [hrun']
      · cases h
    · cases h
  · rename_i hty
    split at h
    · obtain ⟨rfl, _⟩ := irel_c.1 hy
      have hu : P.underlying t = some (.pointer _) := (hT.ok t _ hty).1
      split at h
      rotate_left
      · cases h
      rename_i hp
      cases h
      obtain ⟨a, rfl, rfl⟩ := ptrNil_sound hx hp
      have he : ∀ w, (Op.equal t (.pointer a) (.pointer none)).run P w = .ok a.isNone w := by
        intro w
        unfold Op.equal Op.maxDepth Op.equalIn
        simp only [Sem.run_bind, run_underlying hu, Result.andThen_ok]
        cases a <;> simp
      refine ⟨by cases op <;> simp [eqGuard], ?_, ?_⟩
      · show (do pure (.bool (← Op.equal t (.pointer a) (.pointer none))) : Sem Value).run P w' = _
        simp [he]
      · show (do pure (.bool (!(← Op.equal t (.pointer a) (.pointer none)))) : Sem Value).run P w' = _
        simp [he]
    · cases h
  · rename_i hty
    split at h
    · obtain ⟨rfl, _⟩ := irel_c.1 hy
      have hu : P.underlying t = some (.slice _) := (hT.ok t _ hty).1
      obtain ⟨a, n, c, rfl, rfl⟩ := slNil_sound hok hx h ho
      rename_i ln cp _
      have he : ∀ w, (Op.equal t (.slice a n c) (.slice none ln cp)).run P w = .ok a.isNone w := by
        intro w
        unfold Op.equal Op.maxDepth Op.equalIn
        simp only [Sem.run_bind, run_underlying hu, Result.andThen_ok]
        cases a <;> simp
      refine ⟨by cases op <;> simp [eqGuard], ?_, ?_⟩
      · show (do pure (.bool (← Op.equal t (.slice a n c) (.slice none ln cp))) : Sem Value).run P w' = _
        simp [he]
      · show (do pure (.bool (!(← Op.equal t (.slice a n c) (.slice none ln cp)))) : Sem Value).run P w' = _
        simp [he]
    · cases h
  · cases h

theorem bin_sound (hT : TTok P T) (hok : HOk P I w X H) {nw : Bool} {op : BinOp} {t : TypeId} {vx vy : AV} {x y : Value} (hx : arel I w X vx x) (hy : arel I w X vy y) {v : IV} {obs : List Bool}
    (h : bin nw T H op t vx vy = some (v, obs)) (ho : allTrue obs) (xo yo : Operand) :
    ∃ z, irel I w v z ∧ ∀ w', (do eqGuard op t xo yo x y; binOp op t x y).run P w' = .ok z w' := by
  unfold bin at h
  split at h
  · rename_i k a
    obtain ⟨rfl, _⟩ := irel_c.1 hx
    split at h
    · rename_i k' b
      obtain ⟨rfl, _⟩ := irel_c.1 hy
      obtain ⟨z, rfl, hz, _⟩ := binInt_sound (P := P) t xo yo h ho w
      refine ⟨z, irel_c.2 ⟨rfl, hz⟩, fun w' => ?_⟩
      obtain ⟨z', e1, _, e2⟩ := binInt_sound (P := P) t xo yo h ho w'
      cases e1
      exact e2
    · cases h
  · split at h
    · split at h
      · rename_i r obs' he
        cases h
        refine ⟨.bool r, irel_c.2 ⟨rfl, rfl⟩, fun w' => ?_⟩
        obtain ⟨h1, h2, _⟩ := eqv_sound hT hok hx hy he ho xo yo .eql w'
        simp only [Sem.run_bind, h1, Result.andThen_ok, h2]
      · cases h
    · split at h
      · rename_i r obs' he
        cases h
        refine ⟨.bool (!r), irel_c.2 ⟨rfl, rfl⟩, fun w' => ?_⟩
        obtain ⟨h1, _, h2⟩ := eqv_sound hT hok hx hy he ho xo yo .neq w'
        simp only [Sem.run_bind, h1, Result.andThen_ok, h2]
      · cases h
    · split at h
      · rename_i a b _
        cases h
        obtain ⟨rfl, _⟩ := irel_c.1 hx
        obtain ⟨rfl, _⟩ := irel_c.1 hy
        simp only [allTrue, decide_eq_true_eq, and_true] at ho
        refine ⟨.string (a ++ b), irel_c.2 ⟨rfl, rfl⟩, fun w' => ?_⟩
        have : ¬ ((a.size + b.size : Nat) : Int) > IntKind.i64.max := by simp [IntKind.max, IntKind.signed, IntKind.bits]; omega
        simp only [Sem.run_bind]
        simp [eqGuard, binOp, Op.stringOp]
        simpa using this
      · cases h
    · cases h

theorem un_sound {op : UnOp} {vx : AV} {x : Value} (hx : arel I w X vx x) {v : IV} {obs : List Bool} (h : un op vx = some (v, obs)) :
    ∃ z, irel I w v z ∧ ∀ w', (Op.unary op x).run P w' = .ok z w' := by
  unfold un at h
  split at h
  · cases h; obtain ⟨rfl, _⟩ := irel_c.1 hx; exact ⟨_, irel_c.2 ⟨rfl, rfl⟩, fun w' => by simp [Op.unary]⟩
  · cases h; obtain ⟨rfl, _⟩ := irel_c.1 hx; exact ⟨_, irel_c.2 ⟨rfl, rfl⟩, fun w' => by simp [Op.unary, Op.intArith]⟩
  · cases h

end Go.AM

namespace Go.AM
open Go.RowKit

def notAgg : IV → Bool
  | .agg _ => false
  | _ => true

/-- a type of one cell -/
def scalar (T : TT) (t : TypeId) : Bool := match T.at t with
  | some ⟨.struct _ _, _, _, _⟩ => false
  | some ⟨.other, _, _, _⟩ => false
  | some ⟨_, s, _, _⟩ => Nat.beq s 1
  | none => false

def getI : AV → Nat → Option AV
  | .i (.agg l), o => match l[o]? with
    | some e => match notAgg e with | true => some (.i e) | false => none
    | none => none
  | .agg l, o => l[o]?
  | _, _ => none

def fieldOf (T : TT) (t : TypeId) (f : Nat) : Option (Nat × TypeId) :=
  match T.at t with
  | some ⟨.struct fs _, _, _, _⟩ => match fs[f]? with
    | some (o, ft) => match scalar T ft with
      | true => some (o, ft)
      | false => none
    | none => none
  | _ => none

def qField (T : TT) (t : TypeId) (x : AV) (f : Nat) : Option AV :=
  match fieldOf T t f with
  | some (o, _) => getI x o
  | none => none

def qFieldAddr (T : TT) (t : TypeId) (x : AV) (f : Nat) : Option AV :=
  match fieldOf T t f with
  | some (o, _) => match x with
    | .i (.ptr (.agg l)) => match l[o]? with
      | some e => match notAgg e with | true => some (.i (.ptr e)) | false => none
      | none => none
    | .optr id off => some (.optr id (off + o))
    | .oel id row s j off => some (.oel id row s j (off + o))
    | _ => none
  | none => none

def qIndexAddr (T : TT) (H : List AObj) (t : TypeId) (x : AV) (i : Int) : Option (AV × List Bool) :=
  match T.at t with
  | some ⟨.slice e, _, _, _⟩ => match T.at e with
    | some ⟨_, es, _, _⟩ => match x with
      | .i (.sl s _ n f) => match Nat.beq es s with
        | true => some (.i (.ptr (f i.toNat)), [decide (0 ≤ i ∧ i < n)])
        | false => none
      | .osl id none => match H[id]? with
        | some (.arr _ _ s n _) => match Nat.beq es s with
          | true => some (.oel id none s i.toNat 0, [decide (0 ≤ i ∧ i < n)])
          | false => none
        | some (.arr2 _ _ _ _ n _ _) => match Nat.beq es 1 with
          | true => some (.oel id none 1 i.toNat 0, [decide (0 ≤ i ∧ i < n)])
          | false => none
        | _ => none
      | .osl id (some r) => match H[id]? with
        | some (.arr2 _ _ _ s n g h) => match Nat.beq es s with
          | true => some (.oel id (some r) s i.toNat 0, [decide (0 ≤ i ∧ i < (g r).1), decide (r < n ∧ h ≠ some r)])
          | false => none
        | _ => none
      | _ => none
    | none => none
  | _ => none

def qIndex (T : TT) (t : TypeId) (x : AV) (i : Int) : Option (AV × List Bool) :=
  match T.at t with
  | some ⟨.str, _, _, _⟩ => match x with
    | .i (.c (.string s)) => some (.i (.c (.int .u8 (s.toList.getD i.toNat 0).toNat)), [decide (0 ≤ i ∧ i < s.size)])
    | _ => none
  | _ => none

/-- an element, or a component of it, as a scalar -/
def scalarAt (e : IV) (off : Nat) : Option IV :=
  match e with
  | .agg l => match l[off]? with
    | some e' => match notAgg e' with | true => some e' | false => none
    | none => none
  | e => match off with | 0 => some e | _ => none

def aggAt (e : IV) (off size : Nat) : Option IV :=
  match e with
  | .agg l => match off with
    | 0 => match Nat.beq l.length size with | true => some (.agg l) | false => none
    | _ => none
  | _ => none

def qLoad (T : TT) (H : List AObj) (t : TypeId) (a : AV) : Option (AV × List Bool) :=
  match T.at t with
  | some ⟨.other, _, _, _⟩ => none
  | some ⟨.struct _ _, size, _, _⟩ => match a with
    | .i (.ptr e) => match aggAt e 0 size with | some e => some (.i e, []) | none => none
    | .optr id off => match H[id]? with
      | some (.box _ cells) => match Nat.ble (off + size) cells.length with
        | true => some (mkAgg ((cells.drop off).take size), [])
        | false => none
      | _ => none
    | .oel id none s j off => match H[id]? with
      | some (.arr _ _ s' n f) => match Nat.beq s s', aggAt (f j) off size with
        | true, some e => some (.i e, [decide (j < n)])
        | _, _ => none
      | _ => none
    | .oel id (some r) s j off => match H[id]? with
      | some (.arr2 _ _ _ s' n g h) => match Nat.beq s s', aggAt ((g r).2 j) off size with
        | true, some e => some (.i e, [decide (j < (g r).1), decide (r < n ∧ h ≠ some r)])
        | _, _ => none
      | _ => none
    | _ => none
  | some ⟨_, _, _, _⟩ => match a with
    | .i (.ptr e) => match notAgg e with | true => some (.i e, []) | false => none
    | .optr id off => match H[id]? with
      | some (.box _ cells) => match cells[off]? with
        | some .any => none
        | some v => some (v, [])
        | none => none
      | _ => none
    | .oel id none s j off => match H[id]? with
      | some (.arr _ _ s' n f) => match Nat.beq s s', scalarAt (f j) off with
        | true, some e => some (.i e, [decide (j < n)])
        | _, _ => none
      | some (.arr2 _ _ _ _ n _ h) => match off, s with
        | 0, 1 => some (.osl id (some j), [decide (j < n ∧ h ≠ some j)])
        | _, _ => none
      | _ => none
    | .oel id (some r) s j off => match H[id]? with
      | some (.arr2 _ _ _ s' n g h) => match Nat.beq s s', scalarAt ((g r).2 j) off with
        | true, some e => some (.i e, [decide (j < (g r).1), decide (r < n ∧ h ≠ some r)])
        | _, _ => none
      | _ => none
    | _ => none
  | none => none

def optInt (F : Operand → Option AV) : Option Operand → Option (Option Int)
  | none => some none
  | some x => match F x with
    | some (.i (.c (.int _ n))) => some (some n)
    | _ => none

/-- slices of immutable data and of strings -/
def qSlice (T : TT) (t : TypeId) (x : AV) (lo hi mx : Option Int) : Option (AV × List Bool) :=
  match T.at t with
  | some ⟨.str, _, _, _⟩ => match x with
    | .i (.c (.string s)) => match mx with
      | some _ => none
      | none =>
        let h : Int := match hi with | some h => h | none => s.size
        let l : Int := match lo with | some l => l | none => 0
        some (.i (.c (.string (s.extract l.toNat h.toNat))), [decide (0 ≤ l ∧ l ≤ h ∧ h ≤ s.size)])
    | _ => none
  | some ⟨.slice e, _, _, _⟩ => match T.at e with
    | some ⟨_, es, _, _⟩ => match x with
      | .i (.sl s ex n f) => match Nat.beq es s with
        | true =>
          let l : Int := match lo with | some l => l | none => 0
          match mx with
          | none =>
            let h : Int := match hi with | some h => h | none => n
            some (.i (.sl s (ex && h == n) (h.toNat - l.toNat) (fun j => f (l.toNat + j))), [decide (0 ≤ l ∧ l ≤ h ∧ h ≤ n)])
          | some m => match hi with
            | some h => some (.i (.sl s (h == m) (h.toNat - l.toNat) (fun j => f (l.toNat + j))), [decide (0 ≤ l ∧ l ≤ h ∧ h ≤ m ∧ m ≤ n)])
            | none => none
        | false => none
      | _ => none
    | none => none
  | _ => none

def lenOf (H : List AObj) : AV → Option (Nat × List Bool)
  | .i (.c (.string s)) => some (s.size, [])
  | .i (.c (.slice none n _)) => some (n, [])
  | .i (.sl _ _ n _) => some (n, [])
  | .osl id none => match H[id]? with
    | some (.arr _ _ _ n _) => some (n, [])
    | some (.arr2 _ _ _ _ n _ _) => some (n, [])
    | _ => none
  | .osl id (some r) => match H[id]? with
    | some (.arr2 _ _ _ _ n g h) => some ((g r).1, [decide (r < n ∧ h ≠ some r)])
    | _ => none
  | .omap id => match H[id]? with
    | some (.map _ _ card _ _) => some (card, [])
    | _ => none
  | _ => none

def qLen (T : TT) (H : List AObj) (t : TypeId) (x : AV) : Option (AV × List Bool) :=
  match T.at t with
  | some ⟨ty, _, _, _⟩ => match ty, x with
    | .str, .i (.c (.string _)) | .slice _, .i (.c (.slice none _ _)) | .slice _, .i (.sl _ _ _ _) | .slice _, .osl _ _ | .map _ _, .omap _ =>
      match lenOf H x with
      | some (n, obs) => some (.i (.c (.int .i64 n)), obs)
      | none => none
    | _, _ => none
  | none => none

def qLookup (T : TT) (H : List AObj) (t : TypeId) (m x : AV) (ok : Bool) : Option (AV × List Bool) :=
  match T.at t with
  | some ⟨.map kt et, _, _, _⟩ => match T.at kt with
    | some ⟨.int k, _, _, _⟩ => match m with
      | .omap id => match H[id]? with
        | some (.map k' et' _ dom val) => match Nat.beq et et', x with
          | true, .i (.c (.int k'' y)) => match decide (k = k' ∧ k'' = k) with
            | true => match ok with
              | true => some (.tup [.i (val y), .i (.c (.bool (dom y)))], [])
              | false => some (.i (val y), [])
            | false => none
          | _, _ => none
        | _ => none
      | _ => none
    | _ => none
  | _ => none

/-- bytes, as far as they are written out -/
def bytesOf (f : Nat → IV) : Nat → Nat → Option (List Int)
  | _, 0 => some []
  | k, n + 1 => match f k with
    | .c (.int .u8 x) => match bytesOf f (k + 1) n with
      | some l => some (x :: l)
      | none => none
    | _ => none

def ofBytes (l : List Int) : ByteArray := l.foldl (fun r n => r.push (UInt8.ofNat n.toNat)) ByteArray.empty

def qConvert (T : TT) (H : List AObj) (s d : TypeId) (x : AV) : Option (AV × List Bool) :=
  match T.at d with
  | some ⟨.int k, _, _, _⟩ => match x with
    | .i (.c (.int _ n)) => some (.i (.c (.int k (k.wrap n))), [])
    | _ => none
  | some ⟨.str, _, _, _⟩ => match x with
    | .i (.c (.string s)) => some (.i (.c (.string s)), [])
    | .osl id none => match T.at s with
      | some ⟨.slice e, _, _, _⟩ => match T.at e with
        | some ⟨.int .u8, _, _, _⟩ => match H[id]? with
          | some (.arr _ _ 1 n f) => match bytesOf f 0 n with
            | some l => some (.i (.c (.string (ofBytes l))), [])
            | none => none
          | _ => none
        | _ => none
      | _ => none
    | _ => none
  | _ => none

def isOneCell : AV → Bool
  | .i (.agg _) | .agg _ | .tup _ | .opt _ _ | .any => false
  | _ => true

def mkClo (f : FuncId) (l : List AV) : AV := match allImm l, l.all isOneCell with
  | some m, true => .i (.clo f m)
  | _, _ => .clo f l

def fetchAll (F : Operand → Option AV) : List Operand → Option (List AV)
  | [] => some []
  | x :: r => match F x, fetchAll F r with
    | some v, some l => some (v :: l)
    | _, _ => none

/-- parts laid over zero cells -/
def fillParts (T : TT) (fs : List (Nat × TypeId)) (F : Operand → Option AV) : List (Nat × Operand) → List AV → Option (List AV)
  | [], cells => some cells
  | (i, x) :: r, cells => match fs[i]?, F x with
    | some (o, ft), some v => match scalar T ft, Nat.blt o cells.length, isOneCell v with
      | true, true, true => fillParts T fs F r (cells.set o v)
      | _, _, _ => none
    | _, _ => none

def qBuild (T : TT) (F : Operand → Option AV) (t : TypeId) (parts : List (Nat × Operand)) : Option AV :=
  match T.at t with
  | some ⟨.struct fs _, _, _, z⟩ => match fillParts T fs F parts (z.map fun v => .i (.c v)) with
    | some cells => match fs.all (fun p => scalar T p.2) with
      | true => some (mkAgg cells)
      | false => none
    | none => none
  | _ => none

def qop (nw : Bool) (T : TT) (H : List AObj) (F : Operand → Option AV) : Op → Option (AV × List Bool)
  | .move x => match F x with | some v => some (v, []) | none => none
  | .assign x => match F x with | some v => some (v, []) | none => none
  | .binOp op t x y _ => match F x, F y with
    | some a, some b => match bin nw T H op t a b with
      | some (v, obs) => some (.i v, obs)
      | none => none
    | _, _ => none
  | .unOp op _ x => match F x with
    | some a => match un op a with
      | some (v, obs) => some (.i v, obs)
      | none => none
    | none => none
  | .convert s d x => match T.at s, F x with
    | some ⟨.other, _, _, _⟩, _ => none
    | some _, some a => qConvert T H s d a
    | _, _ => none
  | .field s x f => match F x with
    | some a => match qField T s a f with | some v => some (v, []) | none => none
    | none => none
  | .fieldAddr s x f => match F x with
    | some a => match qFieldAddr T s a f with | some v => some (v, []) | none => none
    | none => none
  | .indexAddr t x i => match F x, F i with
    | some a, some (.i (.c (.int _ n))) => qIndexAddr T H t a n
    | _, _ => none
  | .index t x i => match F x, F i with
    | some a, some (.i (.c (.int _ n))) => qIndex T t a n
    | _, _ => none
  | .load t a => match F a with | some a => qLoad T H t a | none => none
  | .slice t x lo hi mx => match F x, optInt F lo, optInt F hi, optInt F mx with
    | some a, some l, some h, some m => qSlice T t a l h m
    | _, _, _, _ => none
  | .lookup t m x ok => match F m, F x with
    | some a, some b => qLookup T H t a b ok
    | _, _ => none
  | .makeFunc (.func f) first captured => match first.toList, fetchAll F captured.toList with
    | [], some l => some (mkClo f l, [])
    | _, _ => none
  | .extract x i => match F x with
    | some (.tup l) => match l[i]? with
      | some .any => none
      | some v => some (v, [])
      | none => none
    | _ => none
  | .nilCheck x => match F x with
    | some (.i (.ptr e)) => some (.i (.ptr e), [])
    | some (.optr id off) => some (.optr id off, [])
    | some (.oel id row s j off) => some (.oel id row s j off, [])
    | some (.i (.clo f l)) => some (.i (.clo f l), [])
    | some (.clo f l) => some (.clo f l, [])
    | _ => none
  | .build t parts => match qBuild T F t parts.toList with | some v => some (v, []) | none => none
  | .call ⟨.builtin .len, args, ts⟩ => match args.toList, ts.toList with
    | [x], [t] => match F x with | some a => qLen T H t a | none => none
    | _, _ => none
  | .call ⟨.builtin .max, args, _⟩ => match args.toList with
    | [x, y] => match F x, F y with
      | some (.i (.c (.int k a))), some (.i (.c (.int _ b))) => some (.i (.c (.int k (if b > a then b else a))), [])
      | _, _ => none
    | _ => none
  | .call ⟨.builtin .min, args, _⟩ => match args.toList with
    | [x, y] => match F x, F y with
      | some (.i (.c (.int k a))), some (.i (.c (.int _ b))) => some (.i (.c (.int k (if b < a then b else a))), [])
      | _, _ => none
    | _ => none
  | _ => none

end Go.AM

namespace Go.AM
open Go.RowKit

variable {P : Program} {T : TT} {I : Nat → Prop} {w : World} {X : Hd} {H : List AObj}

theorem irel_of_crel {e : IV} {v : Value} (hn : notAgg e = true) (h : crel I w e [v]) : irel I w e v := by
  cases e <;> first | exact h | (simp [notAgg] at hn)

theorem crel_of_irel {e : IV} {v : Value} (hn : notAgg e = true) (h : irel I w e v) : crel I w e [v] := by
  cases e <;> first | exact h | (simp [notAgg] at hn)

theorem crel_one {e : IV} {cs : List Value} (hn : notAgg e = true) (h : crel I w e cs) : ∃ v, cs = [v] ∧ v.oneCell' = true := by
  cases e with
  | c v => exact ⟨v, h⟩
  | agg l => simp [notAgg] at hn
  | sl s ex n f => obtain ⟨a, cap, h1, _⟩ := h; exact ⟨_, h1, rfl⟩
  | ptr e => obtain ⟨b, o, es, h1, _⟩ := h; exact ⟨_, h1, rfl⟩
  | clo f l => obtain ⟨vs, h1, _⟩ := h; exact ⟨_, h1, rfl⟩

theorem crelAll_get {l : List IV} {cs : List Value} (h : crelAll I w l cs) {o : Nat} {e : IV} (he : l[o]? = some e) : ∃ v, cs[o]? = some v ∧ crel I w e [v] := by
  induction l generalizing cs o with
  | nil => simp at he
  | cons e' l ih =>
    obtain ⟨v, r, rfl, h1, h2⟩ := h
    cases o with
    | zero => simp at he; subst he; exact ⟨v, by simp, h1⟩
    | succ o => obtain ⟨u, h3, h4⟩ := ih h2 (by simpa using he); exact ⟨u, by simpa using h3, h4⟩

theorem arelAll_get {l : List AV} {cs : List Value} (h : arelAll I w X l cs) {o : Nat} {e : AV} (he : l[o]? = some e) : ∃ v, cs[o]? = some v ∧ arel I w X e v := by
  induction l generalizing cs o with
  | nil => simp at he
  | cons e' l ih =>
    obtain ⟨v, r, rfl, h1, h2⟩ := h
    cases o with
    | zero => simp at he; subst he; exact ⟨v, by simp, h1⟩
    | succ o => obtain ⟨u, h3, h4⟩ := ih h2 (by simpa using he); exact ⟨u, by simpa using h3, h4⟩

theorem arelAll_length {l : List AV} {cs : List Value} (h : arelAll I w X l cs) : cs.length = l.length := by
  induction l generalizing cs with
  | nil => simp only [arelAll] at h; subst h; rfl
  | cons e l ih => obtain ⟨v, r, rfl, _, h2⟩ := h; simp [ih h2]

theorem refsAll_get {p : Nat → Option Nat → Bool} {l : List AV} (h : refsAll p l = true) {o : Nat} {e : AV} (he : l[o]? = some e) : refs p e = true := by
  induction l generalizing o with
  | nil => simp at he
  | cons e' l ih =>
    rw [refsAll_cons] at h
    cases o with
    | zero => simp at he; subst he; exact h.1
    | succ o => exact ih h.2 (by simpa using he)

theorem Addr.add_at (b o n : Nat) : (⟨b, o, none⟩ : Addr).add n = ⟨b, o + n, none⟩ := by
  unfold Addr.add; split <;> simp_all

/-! ### types -/
theorem scalar_spec (hT : TTok P T) {t : TypeId} (h : scalar T t = true) : (∀ w, (isAgg t).run P w = .ok false w) ∧ (∀ w, (sizeOf t).run P w = .ok 1 w) := by
  unfold scalar at h
  split at h
  · cases h
  · cases h
  · rename_i ty s _ _ hn1 hn2 hty
    obtain ⟨h1, info, h2, h3, _⟩ := hT.ok t _ hty
    have hs : s = 1 := Nat.eq_of_beq_eq_true h
    subst hs
    refine ⟨fun w => ?_, fun w => by simp [sizeOf, typeInfo, h2, h3]⟩
    cases ty with
    | struct fs e => exact (hn1 fs e rfl).elim
    | other => exact (hn2 rfl).elim
    | func => obtain ⟨a, b, c, h5⟩ := h1; simp [isAgg, run_underlying h5]
    | bool => simp [isAgg, run_underlying (show P.underlying t = _ from h1)]
    | int k => simp [isAgg, run_underlying (show P.underlying t = _ from h1)]
    | str => simp [isAgg, run_underlying (show P.underlying t = _ from h1)]
    | ptr e => simp [isAgg, run_underlying (show P.underlying t = _ from h1)]
    | slice e => simp [isAgg, run_underlying (show P.underlying t = _ from h1)]
    | map k e => simp [isAgg, run_underlying (show P.underlying t = _ from h1)]
  · cases h

theorem fieldOf_spec (hT : TTok P T) {t : TypeId} {f o : Nat} {ft : TypeId} (h : fieldOf T t f = some (o, ft)) :
    ∃ (arr : Array Field) (fd : Field), P.underlying t = some (.struct arr) ∧ arr[f]? = some fd ∧ fd.offset = o ∧ fd.type = ft ∧ scalar T ft = true := by
  unfold fieldOf at h
  split at h
  · rename_i fs _ _ _ _ hty
    split at h
    · rename_i o' ft' hf
      split at h
      · rename_i hs
        cases h
        obtain ⟨arr, hu, hfs, _⟩ := (hT.ok t _ hty).1
        subst hfs
        rw [List.getElem?_map] at hf
        cases ha : arr.toList[f]? with
        | none => rw [ha] at hf; simp at hf
        | some fd =>
          rw [ha] at hf
          simp only [Option.map_some, Option.some.injEq, Prod.mk.injEq] at hf
          exact ⟨arr, fd, hu, by simpa using ha, hf.1, hf.2, hs⟩
      · cases h
    · cases h
  · cases h

theorem getI_sound {x : AV} {xv : Value} {o : Nat} {v : AV} (hx : arel I w X x xv) (h : getI x o = some v) : ∃ cs : List Value, xv = .agg cs.toArray ∧ ∃ z, cs[o]? = some z ∧ arel I w X v z := by
  unfold getI at h
  split at h
  · split at h
    · rename_i e he
      split at h
      · rename_i hn
        cases h
        obtain ⟨cs, rfl, hc⟩ := hx
        obtain ⟨z, h1, h2⟩ := crelAll_get hc he
        exact ⟨cs, rfl, z, h1, irel_of_crel hn h2⟩
      · cases h
    · cases h
  · obtain ⟨cs, rfl, hc, _⟩ := hx
    exact ⟨cs, rfl, arelAll_get hc h⟩
  · cases h

theorem getI_refs {p : Nat → Option Nat → Bool} {x : AV} {o : Nat} {v : AV} (hr : refs p x = true) (h : getI x o = some v) : refs p v = true := by
  unfold getI at h
  split at h
  · split at h
    · split at h
      · cases h; rfl
      · cases h
    · cases h
  · exact refsAll_get hr h
  · cases h

theorem qField_sound (hT : TTok P T) {t : TypeId} {x : AV} {xv : Value} {f : Nat} {v : AV} (hx : arel I w X x xv) (h : qField T t x f = some v) :
    ∃ z, arel I w X v z ∧ ∀ w', (Instr.field t xv f).run P w' = .ok z w' := by
  unfold qField at h
  split at h
  · rename_i o ft hf
    obtain ⟨arr, fd, h1, h2, rfl, rfl, h5⟩ := fieldOf_spec hT hf
    obtain ⟨cs, rfl, z, h6, h7⟩ := getI_sound hx h
    refine ⟨z, h7, fun w' => ?_⟩
    obtain ⟨h8, _⟩ := scalar_spec hT h5
    have h9 : cs.toArray[fd.offset]? = some z := by simpa using h6
    simp only [Instr.field, Sem.run_bind, run_underlying h1, Result.andThen_ok, h2, asAgg, Sem.run_pure, part, h8, Bool.false_eq_true, if_false, Sem.run_ite, h9]
  · cases h

theorem qFieldAddr_sound (hT : TTok P T) {t : TypeId} {x : AV} {xv : Value} {f : Nat} {v : AV} (hx : arel I w X x xv) (h : qFieldAddr T t x f = some v) :
    ∃ z, arel I w X v z ∧ ∀ w', (Instr.fieldAt t xv f).run P w' = .ok z w' := by
  unfold qFieldAddr at h
  split at h
  · rename_i o ft hf
    obtain ⟨arr, fd, h1, h2, rfl, rfl, h5⟩ := fieldOf_spec hT hf
    obtain ⟨_, h8⟩ := scalar_spec hT h5
    have hrun : ∀ (b o : Nat) w', (Instr.fieldAt t (.pointer (some ⟨b, o, none⟩)) f).run P w' = .ok (.pointer (some ⟨b, o + fd.offset, none⟩)) w' := by
      intro b o w'
      simp [Instr.fieldAt, run_underlying h1, h2, Instr.sureAddr, fieldPlace, h8, Addr.add_at]
    split at h
    · rename_i l
      split at h
      · rename_i e he
        split at h
        · rename_i hn
          cases h
          obtain ⟨b, o, es, hxv, hI, hc, hcells⟩ := hx
          simp only [List.cons.injEq, and_true] at hxv
          subst hxv
          obtain ⟨z, h6, h7⟩ := crelAll_get hc he
          refine ⟨_, ⟨b, o + fd.offset, [z], rfl, hI, h7, ?_⟩, hrun b o⟩
          intro k v hk
          have hk0 : k = 0 := by
            rcases k with _ | k
            · rfl
            · simp at hk
          subst hk0
          simp at hk
          subst hk
          exact hcells fd.offset z h6
        · cases h
      · cases h
    · rename_i id off
      cases h
      obtain ⟨b, hb, rfl⟩ := hx
      exact ⟨_, ⟨b, hb, rfl⟩, hrun b off⟩
    · rename_i id row s j off
      cases h
      obtain ⟨b, hb, rfl⟩ := hx
      refine ⟨_, ⟨b, hb, rfl⟩, fun w' => ?_⟩
      rw [hrun]; simp [Nat.add_assoc]
    · cases h
  · cases h

theorem sizeOf_run (hT : TTok P T) {t : TypeId} {i : TI} (h : T.at t = some i) (w : World) : (sizeOf t).run P w = .ok i.size w := by
  obtain ⟨_, info, h2, h3, _⟩ := hT.ok t _ h
  simp [sizeOf, typeInfo, h2, h3]

theorem rowrel_val {t : TypeId} {s : Nat} {v : Value} {n : Nat} {f : Nat → IV} (h : rowrel I w t s v n f) : (v = .slice none 0 0 ∧ n = 0) ∨ ∃ g cap, v = .slice (some ⟨g, 0, none⟩) n cap ∧ n ≤ cap := by
  obtain ⟨xs, h1, _⟩ := h
  rcases h1.2 with h | ⟨g, cap, cur, h, _, _, hc, _⟩
  · exact .inl h
  · exact .inr ⟨g, cap, h, hc⟩

theorem ownsRow_val {t : TypeId} {s : Nat} {v : Value} {n : Nat} {xs : List Value} (h1 : w.ownsRow 0 t s v n xs) : (v = .slice none 0 0 ∧ n = 0) ∨ ∃ g cap, v = .slice (some ⟨g, 0, none⟩) n cap ∧ n ≤ cap := by
  rcases h1.2 with h | ⟨g, cap, cur, h, _, _, hc, _⟩
  · exact .inl h
  · exact .inr ⟨g, cap, h, hc⟩

theorem run_indexAt (hT : TTok P T) {t e : TypeId} {sz by' : Nat} {z : List Value} {ei : TI} (ht : T.at t = some ⟨.slice e, sz, by', z⟩) (he : T.at e = some ei) (b o n c : Nat) (k : IntKind) (i : Int) (h0 : 0 ≤ i) (h1 : i < n) (w' : World) :
    (Instr.indexAt t (.slice (some ⟨b, o, none⟩) n c) (.int k i)).run P w' = .ok (.pointer (some ⟨b, o + i.toNat * ei.size, none⟩)) w' := by
  have hu : P.underlying t = some (.slice e) := (hT.ok t _ ht).1
  simp [Instr.indexAt, asIntOf, run_underlying hu, h0, h1, sizeOf_run hT he, Addr.add_at]

theorem qIndexAddr_sound (hT : TTok P T) (hok : HOk P I w X H) {t : TypeId} {x : AV} {xv : Value} {i : Int} {k : IntKind} {v : AV} {obs : List Bool} (hx : arel I w X x xv) (h : qIndexAddr T H t x i = some (v, obs)) (ho : allTrue obs) :
    ∃ z, arel I w X v z ∧ ∀ w', (Instr.indexAt t xv (.int k i)).run P w' = .ok z w' := by
  unfold qIndexAddr at h
  split at h
  rotate_left
  · cases h
  rename_i e _ _ _ ht
  split at h
  rotate_left
  · cases h
  rename_i ty es by' z' he
  split at h
  · rename_i s ex n f
    split at h
    · rename_i hs
      cases h
      simp only [allTrue, decide_eq_true_eq, and_true] at ho
      have hs' := Nat.eq_of_beq_eq_true hs
      subst hs'
      obtain ⟨a, cap, hxv, hc, _, h4⟩ := hx
      simp only [List.cons.injEq, and_true] at hxv
      subst hxv
      rcases h4 with h4 | ⟨b, o, rfl, hI, h5⟩
      · omega
      · obtain ⟨cs, h6, h7, h8⟩ := h5 i.toNat (by omega)
        exact ⟨_, ⟨b, o + i.toNat * es, cs, rfl, hI, h7, h8⟩, run_indexAt hT ht he b o n cap k i ho.1 ho.2⟩
    · cases h
  · rename_i id
    split at h
    · rename_i _ _ s n f hid
      split at h
      · rename_i hs
        cases h
        simp only [allTrue, decide_eq_true_eq, and_true] at ho
        have hs' := Nat.eq_of_beq_eq_true hs
        subst hs'
        obtain ⟨rfl, _⟩ := hx
        rcases rowrel_val (hok.obj _ _ hid) with ⟨_, h⟩ | ⟨g, cap, h, _⟩
        · omega
        · rw [h]
          refine ⟨_, ⟨g, ⟨n, cap, h⟩, rfl⟩, fun w' => ?_⟩
          rw [run_indexAt hT ht he g 0 n cap k i ho.1 ho.2]; simp
      · cases h
    · rename_i _ _ _ _ n g' hole hid
      split at h
      · rename_i hs
        cases h
        simp only [allTrue, decide_eq_true_eq, and_true] at ho
        have hs' := Nat.eq_of_beq_eq_true hs
        subst hs'
        obtain ⟨rfl, _⟩ := hx
        obtain ⟨⟨xs, h1, _⟩, _⟩ := hok.obj _ _ hid
        rcases ownsRow_val h1 with ⟨_, h⟩ | ⟨g, cap, h, _⟩
        · omega
        · rw [h]
          refine ⟨_, ⟨g, ⟨n, cap, h⟩, rfl⟩, fun w' => ?_⟩
          rw [run_indexAt hT ht he g 0 n cap k i ho.1 ho.2]; simp
      · cases h
    · cases h
  · rename_i id r
    split at h
    · rename_i _ _ _ s n g' hole hid
      split at h
      · rename_i hs
        cases h
        simp only [allTrue, decide_eq_true_eq, and_true] at ho
        have hs' := Nat.eq_of_beq_eq_true hs
        subst hs'
        obtain ⟨rfl, _⟩ := hx
        obtain ⟨_, h2⟩ := hok.obj _ _ hid
        rcases rowrel_val (h2 r ho.2.1 ho.2.2) with ⟨_, h⟩ | ⟨g, cap, h, _⟩
        · omega
        · rw [h]
          refine ⟨_, ⟨g, ⟨_, cap, h⟩, rfl⟩, fun w' => ?_⟩
          rw [run_indexAt hT ht he g 0 _ cap k i ho.1.1 ho.1.2]; simp
      · cases h
    · cases h
  · cases h

end Go.AM

namespace Go.AM
open Go.RowKit

variable {P : Program} {T : TT} {I : Nat → Prop} {w : World} {X : Hd} {H : List AObj}

theorem byteArray_get (s : ByteArray) (n : Nat) (h : n < s.size) : s[n]? = some (s.toList.getD n 0) := by
  rw [ByteArray.toList_eq]
  have h2 : n < s.data.size := h
  have : s[n]? = some s[n] := by simp [getElem?_pos, h]
  rw [this]
  have h3 : s.data.toList.getD n 0 = s.data[n] := by rw [List.getD_eq_getElem?_getD, Array.getElem?_toList, Array.getElem?_eq_getElem h2]; rfl
  rw [h3]
  rfl

theorem qIndex_sound (hT : TTok P T) {t : TypeId} {x : AV} {xv : Value} {i : Int} {k : IntKind} {v : AV} {obs : List Bool} (hx : arel I w X x xv) (h : qIndex T t x i = some (v, obs)) (ho : allTrue obs) :
    ∃ z, arel I w X v z ∧ ∀ w', (Instr.index t xv (.int k i)).run P w' = .ok z w' := by
  unfold qIndex at h
  split at h
  · rename_i ht
    split at h
    · rename_i s
      cases h
      simp only [allTrue, decide_eq_true_eq, and_true] at ho
      obtain ⟨rfl, _⟩ := irel_c.1 hx
      have hu : P.underlying t = some .string := (hT.ok t _ ht).1
      have hlt : i.toNat < s.size := by omega
      refine ⟨_, irel_c.2 ⟨rfl, rfl⟩, fun w' => ?_⟩
      have hb : (if 0 ≤ i then s[i.toNat]? else none) = some (s.toList.getD i.toNat 0) := by rw [if_pos ho.1, byteArray_get s _ hlt]
      simp [Instr.index, asIntOf, run_underlying hu, hb]
    · cases h
  · cases h

/-! ### loads -/
theorem run_load_scalar (P : Program) (w : World) (t : TypeId) (b o : Nat) (v : Value) (h1 : (isAgg t).run P w = .ok false w) (hc : w.cell? ⟨b, o, none⟩ = some v) :
    (Instr.loadAt t (.pointer (some ⟨b, o, none⟩))).run P w = .ok v w := by
  simp [Instr.loadAt, Instr.sureAddr, loadVar, h1, hc]

theorem run_load_struct (P : Program) (w : World) (t : TypeId) (b o : Nat) (cs : List Value) (h1 : (isAgg t).run P w = .ok true w) (h2 : (sizeOf t).run P w = .ok cs.length w) (hc : cellsAt w b o cs) :
    (Instr.loadAt t (.pointer (some ⟨b, o, none⟩))).run P w = .ok (.agg cs.toArray) w := by
  have h3 : (loadCells ⟨b, o, none⟩ cs.length).run P w = .ok cs.toArray w := run_loadCells_list (P := P) (w := w) ⟨b, o, none⟩ cs (fun j v hj => by rw [Addr.add_at]; exact hc j v hj)
  simp [Instr.loadAt, Instr.sureAddr, loadVar, h1, h2, h3]

theorem same_cell {w w' : World} (hs : Same w w') {b : Nat} (hb : b < w.heap.size) (o : Nat) : w'.cell? ⟨b, o, none⟩ = w.cell? ⟨b, o, none⟩ := World.cell?_of_block (hs.2.2.2.2 b hb)

theorem same_cells {w w' : World} (hs : Same w w') {b o : Nat} (hb : b < w.heap.size) {cs : List Value} (hc : cellsAt w b o cs) : cellsAt w' b o cs :=
  cellsAt_congr (hs.2.2.2.2 b hb) hc

theorem cell_lt {w : World} {b o : Nat} {v : Value} (h : w.cell? ⟨b, o, none⟩ = some v) : b < w.heap.size := World.block_lt_of_cell? w ⟨b, o, none⟩ h

/-- the cells of element j of an owned row -/
theorem rowrel_cells {t : TypeId} {s : Nat} {v : Value} {n : Nat} {f : Nat → IV} (h : rowrel I w t s v n f) {j : Nat} (hj : j < n) {b : Nat} (hb : ∃ m c, v = .slice (some ⟨b, 0, none⟩) m c) :
    ∃ es, es.length = s ∧ crel I w (f j) es ∧ cellsAt w b (j * s) es ∧ b < w.heap.size := by
  obtain ⟨xs, h1, h2⟩ := h
  obtain ⟨m, c, rfl⟩ := hb
  obtain ⟨es, e1, e2, e3⟩ := h2 j hj
  have hlt := (h1.lt b rfl).2
  refine ⟨es, e1, e2, fun k v hk => ?_, hlt⟩
  have := h1.cells (g := b) rfl (j * s + k) v (e3 k v hk)
  rw [Addr.add_at] at this
  simpa using this

theorem ty_run (hT : TTok P T) {t : TypeId} {i : TI} (h : T.at t = some i) (ho : ∀ s b z, i ≠ ⟨.other, s, b, z⟩) (w : World) : (isAgg t).run P w = .ok (isStruct i.ty) w := by
  obtain ⟨h1, info, h2, h3, _⟩ := hT.ok t _ h
  obtain ⟨ty, sz, by', z⟩ := i
  cases ty with
  | other => exact (ho _ _ _ rfl).elim
  | struct fs e => obtain ⟨arr, h5, _⟩ := h1; simp [isAgg, run_underlying h5, isStruct]
  | func => obtain ⟨a, b, c, h5⟩ := h1; simp [isAgg, run_underlying h5, isStruct]
  | bool => simp [isAgg, run_underlying (show P.underlying t = _ from h1), isStruct]
  | int k => simp [isAgg, run_underlying (show P.underlying t = _ from h1), isStruct]
  | str => simp [isAgg, run_underlying (show P.underlying t = _ from h1), isStruct]
  | ptr e => simp [isAgg, run_underlying (show P.underlying t = _ from h1), isStruct]
  | slice e => simp [isAgg, run_underlying (show P.underlying t = _ from h1), isStruct]
  | map k e => simp [isAgg, run_underlying (show P.underlying t = _ from h1), isStruct]

theorem aggAt_sound {e v : IV} {off size : Nat} {es : List Value} (hc : crel I w e es) (h : aggAt e off size = some v) : off = 0 ∧ es.length = size ∧ irel I w v (.agg es.toArray) := by
  unfold aggAt at h
  split at h
  · split at h
    · split at h
      · rename_i hl
        cases h
        have := crelAll_ints (w := w) (I := I) hc
        exact ⟨rfl, this.trans (Nat.eq_of_beq_eq_true hl), es, rfl, hc⟩
      · cases h
    · cases h
  · cases h

theorem scalarAt_sound {e v : IV} {off : Nat} {es : List Value} (hc : crel I w e es) (h : scalarAt e off = some v) : ∃ z, es[off]? = some z ∧ irel I w v z := by
  unfold scalarAt at h
  split at h
  · split at h
    · rename_i e' he
      split at h
      · rename_i hn
        cases h
        obtain ⟨z, h1, h2⟩ := crelAll_get hc he
        exact ⟨z, h1, irel_of_crel hn h2⟩
      · cases h
    · cases h
  · rename_i hn
    have hn' : notAgg e = true := by cases e <;> first | rfl | (exact (hn _ rfl).elim)
    split at h
    · cases h
      obtain ⟨z, rfl, _⟩ := crel_one hn' hc
      exact ⟨z, rfl, irel_of_crel hn' hc⟩
    · cases h

theorem allImm_sound : ∀ {l : List AV} {m : List IV} {cs : List Value}, allImm l = some m → arelAll I w X l cs → (∀ v ∈ cs, v.oneCell' = true) → crelAll I w m cs
  | [], m, cs, h, hc, _ => by
    simp only [allImm, Option.some.injEq] at h; subst h
    simpa [crelAll, arelAll] using hc
  | e :: l, m, cs, h, hc, h1 => by
    obtain ⟨v, r, rfl, h2, h3⟩ := hc
    cases e <;> simp only [allImm] at h <;> try (cases h; done)
    rename_i e
    split at h
    · rename_i m' hm
      cases h
      refine ⟨v, r, rfl, ?_, allImm_sound hm h3 (fun u hu => h1 u (by simp [hu]))⟩
      by_cases hn : notAgg e = true
      · exact crel_of_irel hn h2
      · cases e <;> simp [notAgg] at hn
        obtain ⟨cs, rfl, _⟩ := h2
        have := h1 (.agg cs.toArray) (by simp)
        simp [Value.oneCell'] at this
    · cases h

theorem mkAgg_sound {l : List AV} {cs : List Value} (hc : arelAll I w X l cs) (h1 : ∀ v ∈ cs, v.oneCell' = true) : arel I w X (mkAgg l) (.agg cs.toArray) := by
  unfold mkAgg
  split
  · rename_i m hm; exact ⟨cs, rfl, allImm_sound hm hc h1⟩
  · exact ⟨cs, rfl, hc, h1⟩

theorem mkAgg_refs {p : Nat → Option Nat → Bool} {l : List AV} (h : refsAll p l = true) : refs p (mkAgg l) = true := by
  unfold mkAgg; split
  · rfl
  · exact h

theorem arelAll_drop {l : List AV} {cs : List Value} (h : arelAll I w X l cs) : ∀ n, arelAll I w X (l.drop n) (cs.drop n)
  | 0 => by simpa using h
  | n + 1 => by
    cases l with
    | nil => simp only [arelAll] at h; subst h; simp [arelAll]
    | cons e l => obtain ⟨v, r, rfl, _, h2⟩ := h; simpa using arelAll_drop h2 n
theorem arelAll_take {l : List AV} {cs : List Value} (h : arelAll I w X l cs) : ∀ n, arelAll I w X (l.take n) (cs.take n)
  | 0 => by simp [arelAll]
  | n + 1 => by
    cases l with
    | nil => simp only [arelAll] at h; subst h; simp [arelAll]
    | cons e l => obtain ⟨v, r, rfl, h1, h2⟩ := h; exact ⟨v, r.take n, by simp, h1, arelAll_take h2 n⟩
theorem refsAll_drop {p : Nat → Option Nat → Bool} {l : List AV} (h : refsAll p l = true) : ∀ n, refsAll p (l.drop n) = true
  | 0 => by simpa using h
  | n + 1 => by
    cases l with
    | nil => simp [refsAll]
    | cons e l => rw [refsAll_cons] at h; simpa using refsAll_drop h.2 n
theorem refsAll_take {p : Nat → Option Nat → Bool} {l : List AV} (h : refsAll p l = true) : ∀ n, refsAll p (l.take n) = true
  | 0 => by simp [refsAll]
  | n + 1 => by
    cases l with
    | nil => simp [refsAll]
    | cons e l => rw [refsAll_cons] at h; rw [List.take_succ_cons, refsAll_cons]; exact ⟨h.1, refsAll_take h.2 n⟩

theorem box_cellsAt {b : Nat} {t : TypeId} {cs : List Value} (h : w.heap[b]? = some (.cells cs.toArray t (0, 0))) (n : Nat) : cellsAt w b n (cs.drop n) := by
  intro k v hk
  rw [cell_of_row w b _ _ _ _ h]
  simpa [List.getElem?_drop] using hk

theorem qLoad_sound (hT : TTok P T) (hok : HOk P I w X H) (hlt : ∀ b, I b → b < w.heap.size) {t : TypeId} {a : AV} {av : Value} {v : AV} {obs : List Bool}
    (ha : arel I w X a av) (hr : refs (below H.length) a = true) (h : qLoad T H t a = some (v, obs)) (ho : allTrue obs) :
    (∃ z, arel I w X v z ∧ ∀ w', Same w w' → (Instr.loadAt t av).run P w' = .ok z w') ∧ refs (below H.length) v = true := by
  unfold qLoad at h
  split at h
  · cases h
  · rename_i fs eqk size by' zz hty
    have hagg : ∀ w, (isAgg t).run P w = .ok true w := fun w => ty_run hT hty (by simp) w
    have hsz : ∀ w, (sizeOf t).run P w = .ok size w := fun w => sizeOf_run hT hty w
    have fin : ∀ (b o : Nat) (es : List Value), es.length = size → b < w.heap.size → cellsAt w b o es → ∀ w', Same w w' → (Instr.loadAt t (.pointer (some ⟨b, o, none⟩))).run P w' = .ok (.agg es.toArray) w' := by
      intro b o es hes hb hc w' hs
      exact run_load_struct P w' t b o es (hagg w') (by rw [hes]; exact hsz w') (same_cells hs hb hc)
    split at h
    · split at h
      · rename_i e e' he
        cases h
        obtain ⟨b, o, es, hav, hI, hc, hcells⟩ := ha
        simp only [List.cons.injEq, and_true] at hav
        subst hav
        obtain ⟨_, h2, h3⟩ := aggAt_sound hc he
        exact ⟨⟨_, h3, fin b o es h2 (hlt b hI) hcells⟩, rfl⟩
      · cases h
    · rename_i id off
      split at h
      · rename_i t' cells hid
        split at h
        · rename_i hle
          cases h
          have hle' := Nat.le_of_ble_eq_true hle
          obtain ⟨b, hb, rfl⟩ := ha
          obtain ⟨b', cs, h1, h2, h3, h4, h5⟩ := hok.obj _ _ hid
          rw [hb] at h1; cases h1
          have hlen := arelAll_length h3
          refine ⟨⟨_, mkAgg_sound (arelAll_take (arelAll_drop h3 off) size) (fun v hv => h4 v (List.mem_of_mem_drop (List.mem_of_mem_take hv))), fin b off _ (by simp; omega) (Array.getElem?_eq_some_iff.1 h2).1 ?_⟩, mkAgg_refs (refsAll_take (refsAll_drop h5 off) size)⟩
          intro k v hk
          refine box_cellsAt h2 off k v ?_
          rw [List.getElem?_take] at hk
          split at hk
          · exact hk
          · cases hk
        · cases h
      · cases h
    · rename_i id s j off
      split at h
      · rename_i fx t' s' n f hid
        split at h
        · rename_i e hs he
          cases h
          have hs' := Nat.eq_of_beq_eq_true hs
          subst hs'
          simp only [allTrue, decide_eq_true_eq, and_true] at ho
          obtain ⟨b, hb, rfl⟩ := ha
          obtain ⟨es, h1, h2, h3, h4⟩ := rowrel_cells (hok.obj _ _ hid) ho hb
          obtain ⟨rfl, h5, h6⟩ := aggAt_sound h2 he
          exact ⟨⟨_, h6, fin b (j * s) es h5 h4 h3⟩, rfl⟩
        · cases h
      · cases h
    · rename_i id r s j off
      split at h
      · rename_i fx t' tr s' n g hole hid
        split at h
        · rename_i e hs he
          cases h
          have hs' := Nat.eq_of_beq_eq_true hs
          subst hs'
          simp only [allTrue, decide_eq_true_eq, and_true] at ho
          obtain ⟨b, hb, rfl⟩ := ha
          obtain ⟨es, h1, h2, h3, h4⟩ := rowrel_cells ((hok.obj _ _ hid).2 r ho.2.1 ho.2.2) ho.1 hb
          obtain ⟨rfl, h5, h6⟩ := aggAt_sound h2 he
          exact ⟨⟨_, h6, fin b (j * s) es h5 h4 h3⟩, rfl⟩
        · cases h
      · cases h
    · cases h
  · rename_i ty size by' zz hn1 hn2 hty
    have hagg : ∀ w, (isAgg t).run P w = .ok false w := by
      intro w
      rw [ty_run hT hty (by intro s b z h; cases h; exact (hn1 rfl).elim) w]
      cases ty <;> first | rfl | (exact (hn2 _ _ rfl).elim)
    have fin : ∀ (b o : Nat) (z : Value), w.cell? ⟨b, o, none⟩ = some z → ∀ w', Same w w' → (Instr.loadAt t (.pointer (some ⟨b, o, none⟩))).run P w' = .ok z w' := by
      intro b o z hc w' hs
      exact run_load_scalar P w' t b o z (hagg w') (by rw [same_cell hs (cell_lt hc)]; exact hc)
    split at h
    · split at h
      · rename_i e hn
        cases h
        obtain ⟨b, o, es, hav, hI, hc, hcells⟩ := ha
        simp only [List.cons.injEq, and_true] at hav
        subst hav
        obtain ⟨z, rfl, _⟩ := crel_one hn hc
        exact ⟨⟨z, irel_of_crel hn hc, fin b o z (by simpa using hcells 0 z rfl)⟩, rfl⟩
      · cases h
    · rename_i id off
      split at h
      · rename_i t' cells hid
        split at h
        · cases h
        · rename_i hn u hu
          cases h
          obtain ⟨b, hb, rfl⟩ := ha
          obtain ⟨b', cs, h1, h2, h3, h4, h5⟩ := hok.obj _ _ hid
          rw [hb] at h1; cases h1
          obtain ⟨z, h6, h7⟩ := arelAll_get h3 hu
          exact ⟨⟨z, h7, fin b off z (by rw [cell_of_row w b _ _ _ _ h2]; simpa using h6)⟩, refsAll_get h5 hu⟩
        · cases h
      · cases h
    · rename_i id s j off
      split at h
      · rename_i fx t' s' n f hid
        split at h
        · rename_i e hs he
          cases h
          have hs' := Nat.eq_of_beq_eq_true hs
          subst hs'
          simp only [allTrue, decide_eq_true_eq, and_true] at ho
          obtain ⟨b, hb, rfl⟩ := ha
          obtain ⟨es, h1, h2, h3, h4⟩ := rowrel_cells (hok.obj _ _ hid) ho hb
          obtain ⟨z, h5, h6⟩ := scalarAt_sound h2 he
          exact ⟨⟨_, h6, fin b _ z (h3 off z h5)⟩, rfl⟩
        · cases h
      · rename_i fx t' tr s' n g hole hid
        split at h
        · cases h
          simp only [allTrue, decide_eq_true_eq, and_true] at ho
          obtain ⟨b, ⟨m, c, hb⟩, rfl⟩ := ha
          obtain ⟨⟨xs, h1, h2, h3⟩, h4⟩ := hok.obj _ _ hid
          have h5 := h3 j ho.1 ho.2
          rw [hb] at h1
          have h6 := h1.cells (g := b) rfl j _ h5
          rw [Addr.add_at] at h6
          simp only [Nat.zero_add] at h6
          refine ⟨⟨_, ⟨rfl, ?_⟩, fin b _ _ (by simpa using h6)⟩, hr⟩
          rcases rowrel_val (h4 j ho.1 ho.2) with ⟨h, _⟩ | ⟨g, cap, h, _⟩ <;> rw [h] <;> exact ⟨_, _, _, rfl⟩
        · cases h
      · cases h
    · rename_i id r s j off
      split at h
      · rename_i fx t' tr s' n g hole hid
        split at h
        · rename_i e hs he
          cases h
          have hs' := Nat.eq_of_beq_eq_true hs
          subst hs'
          simp only [allTrue, decide_eq_true_eq, and_true] at ho
          obtain ⟨b, hb, rfl⟩ := ha
          obtain ⟨es, h1, h2, h3, h4⟩ := rowrel_cells ((hok.obj _ _ hid).2 r ho.2.1 ho.2.2) ho.1 hb
          obtain ⟨z, h5, h6⟩ := scalarAt_sound h2 he
          exact ⟨⟨_, h6, fin b _ z (h3 off z h5)⟩, rfl⟩
        · cases h
      · cases h
    · cases h
  · cases h

end Go.AM

namespace Go.AM
open Go.RowKit Go.MapKept

variable {P : Program} {T : TT} {I : Nat → Prop} {w : World} {X : Hd} {H : List AObj}

theorem run_gm {r : Nat} {es : Array MapEntry} {clock : Nat} (hb : w.heap[r]? = some (.map es clock)) : (getObj r).run P w = .ok (.map es clock) w := by
  simp [getObj, Sem.run, hb]

theorem bytesOf_sound {f : Nat → IV} : ∀ (n k : Nat) (l : List Int), bytesOf f k n = some l → l.length = n ∧ ∀ j, j < n → ∃ x, l[j]? = some x ∧ f (k + j) = .c (.int .u8 x)
  | 0, k, l, h => by simp only [bytesOf, Option.some.injEq] at h; subst h; exact ⟨rfl, fun j hj => absurd hj (by omega)⟩
  | n + 1, k, l, h => by
    simp only [bytesOf] at h
    split at h
    · rename_i x hx
      split at h
      · rename_i l' hl
        cases h
        obtain ⟨h1, h2⟩ := bytesOf_sound n (k + 1) l' hl
        refine ⟨by simp [h1], fun j hj => ?_⟩
        cases j with
        | zero => exact ⟨x, rfl, by simpa using hx⟩
        | succ j =>
          obtain ⟨y, h3, h4⟩ := h2 j (by omega)
          exact ⟨y, by simpa using h3, by rw [← h4]; congr 1; omega⟩
      · cases h
    · cases h

theorem qConvert_sound (hT : TTok P T) (hok : HOk P I w X H) {s d : TypeId} {x : AV} {xv : Value} {v : AV} {obs : List Bool} (hsd : ∃ ds, P.underlying s = some ds) (hx : arel I w X x xv) (h : qConvert T H s d x = some (v, obs)) :
    ∃ z, arel I w X v z ∧ ∀ w', Same w w' → (convert s d xv).run P w' = .ok z w' := by
  obtain ⟨ds, hds⟩ := hsd
  unfold qConvert at h
  split at h
  · rename_i k _ _ _ ht
    split at h
    · cases h
      obtain ⟨rfl, _⟩ := irel_c.1 hx
      have hu : P.underlying d = some (.int k) := (hT.ok d _ ht).1
      refine ⟨_, irel_c.2 ⟨rfl, rfl⟩, fun w' _ => ?_⟩
      cases ds <;> simp [convert, run_underlying hu, run_underlying hds, Conv.intToInt]
    · cases h
  · rename_i ht
    have hu : P.underlying d = some .string := (hT.ok d _ ht).1
    split at h
    · cases h
      obtain ⟨rfl, _⟩ := irel_c.1 hx
      refine ⟨_, irel_c.2 ⟨rfl, rfl⟩, fun w' _ => ?_⟩
      cases ds <;> simp [convert, run_underlying hu, run_underlying hds]
    · rename_i id
      split at h
      rotate_left
      · cases h
      rename_i e _ _ _ hs
      split at h
      rotate_left
      · cases h
      rename_i he
      split at h
      rotate_left
      · cases h
      rename_i fx t n f hid
      split at h
      rotate_left
      · cases h
      rename_i l hl
      cases h
      have hus : P.underlying s = some (.slice e) := (hT.ok s _ hs).1
      have hue : P.underlying e = some (.int .u8) := (hT.ok e _ he).1
      obtain ⟨rfl, _⟩ := hx
      obtain ⟨h1, h2⟩ := bytesOf_sound n 0 l hl
      have hrow : rowrel I w t 1 (X.val id none) n f := hok.obj _ _ hid
      refine ⟨_, irel_c.2 ⟨rfl, rfl⟩, fun w' hsm => ?_⟩
      have hconv : ∀ x : Value, (convert s d x).run P w' = (Conv.bytesToString x).run P w' ∨ ∀ a b c, x ≠ .slice a b c := by
        intro x
        cases x <;> first | (left; simp [convert, run_underlying hu, run_underlying hus, run_underlying hue]; done) | (right; intro _ _ _ h; cases h)
      rcases rowrel_val hrow with ⟨hv, hn⟩ | ⟨g, cap, hv, hc⟩
      · rw [hv]
        rw [(hconv _).resolve_right (fun h => h _ _ _ rfl)]
        subst hn
        have : l = [] := List.eq_nil_of_length_eq_zero h1
        subst this
        simp [Conv.bytesToString, ofBytes]
      · rw [hv]
        rw [(hconv _).resolve_right (fun h => h _ _ _ rfl)]
        refine run_bytesToString w' ⟨g, 0, none⟩ n cap l ?_
        have hcells : ∀ j, j < n → ∃ x, l[j]? = some x ∧ w'.cell? ⟨g, j, none⟩ = some (.int .u8 x) := by
          intro j hj
          obtain ⟨x, h3, h4⟩ := h2 j hj
          obtain ⟨es, h5, h6, h7, h8⟩ := rowrel_cells hrow hj ⟨n, cap, hv⟩
          rw [show 0 + j = j from by omega] at h4
          rw [h4] at h6
          obtain ⟨rfl, _⟩ := h6
          refine ⟨x, h3, ?_⟩
          rw [same_cell hsm h8]
          simpa using h7 0 _ rfl
        have h9 := run_loadCells_list (P := P) (w := w') ⟨g, 0, none⟩ (l.map (Value.int .u8)) (fun j v hj => by
          rw [Addr.add_at]
          rw [List.getElem?_map] at hj
          cases hlj : l[j]? with
          | none => rw [hlj] at hj; simp at hj
          | some x =>
            rw [hlj] at hj
            simp only [Option.map_some, Option.some.injEq] at hj
            subst hj
            have hjn : j < n := by rw [← h1]; exact (List.getElem?_eq_some_iff.1 hlj).1
            obtain ⟨x', h3, h4⟩ := hcells j hjn
            rw [hlj] at h3; cases h3
            simpa using h4)
        simpa [h1] using h9
    · cases h
  · cases h

theorem run_bound {P : Program} {w : World} {k : IntKind} {x : Int} {y : Nat} {code : BoundsCode} (h0 : 0 ≤ x) (h1 : x ≤ y) : (Instr.sliceBound (.int k x) y code).run P w = .ok x.toNat w := by
  simp [Instr.sliceBound, asIntOf, h0, h1]

/-- an optional bound, as a value -/
inductive OV : Option Int → Option Value → Prop
  | none : OV none none
  | some (k : IntKind) (x : Int) : OV (some x) (some (.int k x))

theorem run_sliceBounds2 {P : Program} {w : World} {isl : Bool} {len cap : Nat} {lo hi : Option Int} {lv hv : Option Value} (hl : OV lo lv) (hh : OV hi hv)
    (h0 : 0 ≤ lo.getD 0) (h1 : lo.getD 0 ≤ hi.getD len) (h2 : hi.getD len ≤ len) (h3 : len ≤ cap) :
    (Instr.sliceBounds isl len cap lv hv none).run P w = .ok ((lo.getD 0).toNat, (hi.getD len).toNat, cap) w := by
  cases hl <;> cases hh <;> simp only [Option.getD_none, Option.getD_some] at * <;> simp only [Instr.sliceBounds, Sem.run_bind, Sem.run_pure, Result.andThen_ok]
  · simp
  · rw [run_bound (by omega) (by omega)]; simp
  · rw [run_bound (by omega) (by omega)]; simp
  · rw [run_bound (by omega) (by omega)]
    simp only [Result.andThen_ok]
    rw [run_bound (by omega) (by omega)]; simp

theorem run_sliceBounds3 {P : Program} {w : World} {isl : Bool} {len cap : Nat} {lo : Option Int} {h m : Int} {lv : Option Value} {kh km : IntKind} (hl : OV lo lv)
    (h0 : 0 ≤ lo.getD 0) (h1 : lo.getD 0 ≤ h) (h2 : h ≤ m) (h3 : m ≤ cap) :
    (Instr.sliceBounds isl len cap lv (some (.int kh h)) (some (.int km m))).run P w = .ok ((lo.getD 0).toNat, h.toNat, m.toNat) w := by
  cases hl <;> simp only [Option.getD_none, Option.getD_some] at * <;> simp only [Instr.sliceBounds, Sem.run_bind, Sem.run_pure, Result.andThen_ok]
  · rw [run_bound (by omega) (by omega)]
    simp only [Result.andThen_ok]
    rw [run_bound (by omega) (by omega)]; simp
  · rw [run_bound (by omega) (by omega)]
    simp only [Result.andThen_ok]
    rw [run_bound (by omega) (by omega)]
    simp only [Result.andThen_ok]
    rw [run_bound (by omega) (by omega)]; simp

theorem crel_sub {s n : Nat} {f : Nat → IV} {a : Option Addr} {cap : Nat} {ex ex' : Bool} {l h m : Nat}
    (hx : crel I w (.sl s ex n f) [.slice a n cap]) (h1 : l ≤ h) (h2 : h ≤ n) (h3 : h ≤ m) (h4 : m ≤ cap) (hex : ex' = true → m = h) :
    crel I w (.sl s ex' (h - l) (fun j => f (l + j))) [.slice (if m = l then a else a.map (·.add (l * s))) (h - l) (m - l)] := by
  obtain ⟨a', cap', he, hc, _, h5⟩ := hx
  simp only [List.cons.injEq, Value.slice.injEq, and_true, true_and] at he
  obtain ⟨rfl, rfl⟩ := he
  refine ⟨_, _, rfl, by omega, fun e => by rw [hex e], ?_⟩
  by_cases h0 : h - l = 0
  · exact .inl h0
  right
  rcases h5 with h5 | ⟨b, o, rfl, hI, h6⟩
  · omega
  have hml : m ≠ l := by omega
  refine ⟨b, o + l * s, ?_, hI, fun j hj => ?_⟩
  · rw [if_neg hml]; simp [Addr.add_at]
  · obtain ⟨es, e1, e2, e3⟩ := h6 (l + j) (by omega)
    refine ⟨es, e1, e2, ?_⟩
    have : o + l * s + j * s = o + (l + j) * s := by rw [Nat.add_mul]; omega
    rw [this]; exact e3

theorem qSlice_sound (hT : TTok P T) {t : TypeId} {x : AV} {xv : Value} {lo hi mx : Option Int} {v : AV} {obs : List Bool} (hx : arel I w X x xv) (h : qSlice T t x lo hi mx = some (v, obs)) (ho : allTrue obs)
    {lv hv mv : Option Value} (hl : OV lo lv) (hh : OV hi hv) (hm : OV mx mv) :
    ∃ z, arel I w X v z ∧ ∀ w', (Instr.sliceAt t xv lv hv mv).run P w' = .ok z w' := by
  unfold qSlice at h
  split at h
  · rename_i ht
    have hu : P.underlying t = some .string := (hT.ok t _ ht).1
    split at h
    · rename_i s
      split at h
      · cases h
      · cases hm
        obtain ⟨rfl, _⟩ := irel_c.1 hx
        have h2 : some (AV.i (.c (.string (s.extract (lo.getD 0).toNat (hi.getD s.size).toNat))), [decide (0 ≤ lo.getD 0 ∧ lo.getD 0 ≤ hi.getD s.size ∧ hi.getD s.size ≤ s.size)]) = some (v, obs) := by
          rw [← h]; cases lo <;> cases hi <;> rfl
        cases h2
        simp only [allTrue, decide_eq_true_eq, and_true] at ho
        refine ⟨_, irel_c.2 ⟨rfl, rfl⟩, fun w' => ?_⟩
        simp only [Instr.sliceAt, Instr.slice, Sem.run_bind, run_underlying hu, Result.andThen_ok, Option.isSome_none, Bool.false_eq_true, if_false]
        rw [run_sliceBounds2 hl hh ho.1 ho.2.1 ho.2.2 (Nat.le_refl _)]
        simp
    · cases h
  · rename_i e _ _ _ ht
    have hu : P.underlying t = some (.slice e) := (hT.ok t _ ht).1
    split at h
    rotate_left
    · cases h
    rename_i ty es by' z he
    split at h
    rotate_left
    · cases h
    rename_i s ex n f
    split at h
    rotate_left
    · cases h
    rename_i hes
    have hes' := Nat.eq_of_beq_eq_true hes
    subst hes'
    obtain ⟨a, cap, hxv, hc, hex, h4⟩ := hx
    simp only [List.cons.injEq, and_true] at hxv
    subst hxv
    have hx' : crel I w (.sl es ex n f) [.slice a n cap] := ⟨a, cap, rfl, hc, hex, h4⟩
    cases mx with
    | none =>
      cases hm
      have h2 : some (AV.i (.sl es (ex && hi.getD n == n) ((hi.getD n).toNat - (lo.getD 0).toNat) (fun j => f ((lo.getD 0).toNat + j))), [decide (0 ≤ lo.getD 0 ∧ lo.getD 0 ≤ hi.getD n ∧ hi.getD n ≤ n)]) = some (v, obs) := by
        rw [← h]; cases lo <;> cases hi <;> rfl
      cases h2
      simp only [allTrue, decide_eq_true_eq, and_true] at ho
      refine ⟨_, crel_sub (l := (lo.getD 0).toNat) (h := (hi.getD n).toNat) (m := cap) hx' (by omega) (by omega) (by omega) (Nat.le_refl _) (fun e => ?_), fun w' => ?_⟩
      · simp only [Bool.and_eq_true, beq_iff_eq] at e
        rw [hex e.1, e.2]; simp
      · simp only [Instr.sliceAt, Instr.slice, Sem.run_bind, run_underlying hu, Result.andThen_ok]
        rw [run_sliceBounds2 hl hh ho.1 ho.2.1 ho.2.2 hc]
        simp [sizeOf_run hT he]
    | some m =>
      cases hh with
      | none => simp at h
      | some kh h' =>
      cases hm with
      | some km _ =>
      have h2 : some (AV.i (.sl es (h' == m) (h'.toNat - (lo.getD 0).toNat) (fun j => f ((lo.getD 0).toNat + j))), [decide (0 ≤ lo.getD 0 ∧ lo.getD 0 ≤ h' ∧ h' ≤ m ∧ m ≤ n)]) = some (v, obs) := by
        rw [← h]; cases lo <;> rfl
      cases h2
      simp only [allTrue, decide_eq_true_eq, and_true] at ho
      refine ⟨_, crel_sub (l := (lo.getD 0).toNat) (h := h'.toNat) (m := m.toNat) hx' (by omega) (by omega) (by omega) (by omega) (fun e => ?_), fun w' => ?_⟩
      · simp only [beq_iff_eq] at e
        rw [e]
      · simp only [Instr.sliceAt, Instr.slice, Sem.run_bind, run_underlying hu, Result.andThen_ok]
        rw [run_sliceBounds3 hl ho.1 ho.2.1 ho.2.2.1 (by omega)]
        simp [sizeOf_run hT he]
  · cases h

theorem qLen_sound (hT : TTok P T) (hok : HOk P I w X H) {t ty : TypeId} {x : AV} {xv : Value} {v : AV} {obs : List Bool} (hx : arel I w X x xv) (h : qLen T H t x = some (v, obs)) (ho : allTrue obs) :
    ∃ z, arel I w X v z ∧ ∀ w', Same w w' → (Builtin.len_ #[t] ty #[xv]).run P w' = .ok z w' := by
  unfold qLen at h
  split at h
  · rename_i ty' _ _ _ ht
    have h1 := (hT.ok t _ ht).1
    have fin : ∀ {n obs'}, (match lenOf H x with | some (n, obs) => some (AV.i (.c (.int .i64 (n : Int))), obs) | none => none) = some (v, obs) → lenOf H x = some (n, obs') → v = .i (.c (.int .i64 n)) ∧ obs = obs' := by
      intro n obs' h h'
      rw [h'] at h
      cases h
      exact ⟨rfl, rfl⟩
    split at h
    · obtain ⟨rfl, _⟩ := irel_c.1 hx
      obtain ⟨rfl, rfl⟩ := fin h rfl
      have hu : P.underlying t = some .string := h1
      exact ⟨_, irel_c.2 ⟨rfl, rfl⟩, fun w' _ => by simp [Builtin.len_, run_underlying hu, goInt]⟩
    · obtain ⟨rfl, _⟩ := irel_c.1 hx
      obtain ⟨rfl, rfl⟩ := fin h rfl
      have hu : P.underlying t = some (.slice _) := h1
      exact ⟨_, irel_c.2 ⟨rfl, rfl⟩, fun w' _ => by simp [Builtin.len_, run_underlying hu, goInt]⟩
    · obtain ⟨a, cap, hxv, _⟩ := hx
      simp only [List.cons.injEq, and_true] at hxv
      subst hxv
      obtain ⟨rfl, rfl⟩ := fin h rfl
      have hu : P.underlying t = some (.slice _) := h1
      exact ⟨_, irel_c.2 ⟨rfl, rfl⟩, fun w' _ => by simp [Builtin.len_, run_underlying hu, goInt]⟩
    · rename_i id row
      have hu : P.underlying t = some (.slice _) := h1
      obtain ⟨rfl, _⟩ := hx
      have key : ∀ n, (X.val id row = .slice none 0 0 ∧ n = 0 ∨ ∃ g cap, X.val id row = .slice (some ⟨g, 0, none⟩) n cap ∧ n ≤ cap) → ∃ z, irel I w (.c (.int .i64 (n : Int))) z ∧ ∀ w', Same w w' → (Builtin.len_ #[t] ty #[X.val id row]).run P w' = .ok z w' := by
        intro n hn
        refine ⟨_, irel_c.2 ⟨rfl, rfl⟩, fun w' _ => ?_⟩
        rcases hn with ⟨h, rfl⟩ | ⟨g, cap, h, _⟩ <;> rw [h] <;> simp [Builtin.len_, run_underlying hu, goInt]
      cases row with
      | none =>
        cases hid : H[id]? with
        | none => simp [lenOf, hid] at h
        | some o =>
          cases o <;> simp [lenOf, hid] at h
          · obtain ⟨rfl, rfl⟩ := h; exact key _ (rowrel_val (hok.obj _ _ hid))
          · obtain ⟨rfl, rfl⟩ := h; obtain ⟨⟨xs, h2, _⟩, _⟩ := hok.obj _ _ hid; exact key _ (ownsRow_val h2)
      | some r =>
        cases hid : H[id]? with
        | none => simp [lenOf, hid] at h
        | some o =>
          cases o <;> simp [lenOf, hid] at h
          obtain ⟨rfl, rfl⟩ := h
          simp only [allTrue, Bool.and_eq_true, Bool.not_eq_true', decide_eq_true_eq, decide_eq_false_iff_not, and_true] at ho
          exact key _ (rowrel_val ((hok.obj _ _ hid).2 r ho.1 ho.2))
    · rename_i id
      have hu : P.underlying t = some (.map _ _) := h1
      obtain ⟨rfl, r, hr⟩ := hx
      cases hid : H[id]? with
      | none => simp [lenOf, hid] at h
      | some o =>
        cases o <;> simp [lenOf, hid] at h
        obtain ⟨rfl, rfl⟩ := h
        obtain ⟨r', es, clock, h2, h3, h4, _⟩ := hok.obj _ _ hid
        rw [h2]
        refine ⟨_, irel_c.2 ⟨rfl, rfl⟩, fun w' hs => ?_⟩
        have h5 : w'.heap[r']? = some (.map es clock) := by rw [hs.2.2.2.2 r' (Array.getElem?_eq_some_iff.1 h3).1]; exact h3
        simp [Builtin.len_, run_underlying hu, goInt, run_gm h5, h4]
    · cases h
  · cases h

theorem findNow_int (k' k : IntKind) (y : Int) : ∀ (l : List MapEntry) (i : Nat), (∀ e ∈ l, ∃ z, e.key = .int k z) →
    (l.find? (keyEq k y) = none ∧ Instr.findNow (.int k') (.int k y) l i = some none) ∨ ∃ j e, l.find? (keyEq k y) = some e ∧ l[j]? = some e ∧ Instr.findNow (.int k') (.int k y) l i = some (some (i + j, e.val))
  | [], i, _ => .inl ⟨rfl, rfl⟩
  | e :: l, i, h => by
    obtain ⟨z, hz⟩ := h e (by simp)
    by_cases hyz : y = z
    · subst hyz
      exact .inr ⟨0, e, by simp [keyEq, hz], rfl, by simp [Instr.findNow, Instr.sameNow, hz]⟩
    · have h1 : keyEq k y e = false := by simp [keyEq, hz, hyz]
      have h2 : Instr.findNow (.int k') (.int k y) (e :: l) i = Instr.findNow (.int k') (.int k y) l (i + 1) := by
        have h3 : (y == z) = false := by simpa using hyz
        simp only [Instr.findNow, Instr.sameNow, hz, if_true, h3]
      rw [h2]
      rcases findNow_int k' k y l (i + 1) (fun e he => h e (by simp [he])) with ⟨h3, h4⟩ | ⟨j, e', h3, h4, h5⟩
      · exact .inl ⟨by simp [h1, h3], h4⟩
      · exact .inr ⟨j + 1, e', by simp [h1, h3], by simpa using h4, by rw [h5]; congr 3; omega⟩

theorem qLookup_sound (hT : TTok P T) (hok : HOk P I w X H) {t : TypeId} {m x : AV} {mv xv : Value} {ok : Bool} {v : AV} {obs : List Bool} (hm : arel I w X m mv) (hx : arel I w X x xv)
    (h : qLookup T H t m x ok = some (v, obs)) : ∃ z, arel I w X v z ∧ ∀ w', Same w w' → (Instr.lookup t mv xv ok).run P w' = .ok z w' := by
  unfold qLookup at h
  split at h
  rotate_left
  · cases h
  rename_i kt et _ _ _ ht
  split at h
  rotate_left
  · cases h
  rename_i k _ _ _ hk
  split at h
  rotate_left
  · cases h
  rename_i id
  split at h
  rotate_left
  · cases h
  rename_i k' et' card dom val hid
  split at h
  rotate_left
  · cases h
  rename_i k'' y het
  split at h
  rotate_left
  · cases h
  rename_i hkk
  simp only [decide_eq_true_eq] at hkk
  obtain ⟨rfl, rfl⟩ := hkk
  have het' := Nat.eq_of_beq_eq_true het
  subst het'
  obtain ⟨rfl, _⟩ := irel_c.1 hx
  obtain ⟨rfl, r, hr⟩ := hm
  have hu : P.underlying t = some (.map kt et) := (hT.ok t _ ht).1
  have huk : P.underlying kt = some (.int k'') := (hT.ok kt _ hk).1
  obtain ⟨r', es, clock, h2, h3, h4, h5, h6⟩ := hok.obj _ _ hid
  rw [h2]
  clear hr
  have hrun : ∃ z, irel I w (val y) z ∧ ∀ w', Same w w' → (Instr.lookup t (.map (some r')) (.int k'' y) ok).run P w' = .ok (if ok then .tuple #[z, .bool (dom y)] else z) w' := by
    have hk1 : IsKey (.int k'') (.int k'' y) := by simp [IsKey]
    have h7 : ∀ w', Same w w' → w'.heap[r']? = some (.map es clock) := fun w' hs => by rw [hs.2.2.2.2 r' (Array.getElem?_eq_some_iff.1 h3).1]; exact h3
    rcases findNow_int k'' k'' y es.toList 0 h5 with ⟨f1, f2⟩ | ⟨j, e, f1, f2, f3⟩
    · have hd : dom y = false := by
        cases hd : dom y with
        | false => rfl
        | true => obtain ⟨e, he, _⟩ := (h6 y).1 hd; rw [f1] at he; cases he
      obtain ⟨_, z, hz, hz2⟩ := (h6 y).2 hd
      refine ⟨z, hz2, fun w' hs => ?_⟩
      have hzr : ∀ w', (zeroValue et).run P w' = .ok z w' := by
        intro w'
        cases hi : P.info? et with
        | none => rw [hi] at hz; simp at hz
        | some info =>
          rw [hi] at hz
          simp only [Option.bind_some] at hz
          simp [zeroValue, typeInfo, hi, hz]
      simp only [Instr.lookup, Sem.run_bind, run_underlying hu, Result.andThen_ok, run_gm (h7 w' hs), Sem.run_pure, run_checkKey huk hk1, run_findKey huk f2, hzr, hd]
    · have hd : dom y = true := by
        cases hd : dom y with
        | true => rfl
        | false => have := ((h6 y).2 hd).1; rw [f1] at this; cases this
      obtain ⟨e', he, hz⟩ := (h6 y).1 hd
      rw [f1] at he; cases he
      refine ⟨e.val, hz, fun w' hs => ?_⟩
      simp only [Instr.lookup, Sem.run_bind, run_underlying hu, Result.andThen_ok, run_gm (h7 w' hs), Sem.run_pure, run_checkKey huk hk1, run_findKey huk f3, hd]
  obtain ⟨z, hz, hrun⟩ := hrun
  split at h
  · cases h
    exact ⟨.tuple #[z, .bool (dom y)], ⟨[z, .bool (dom y)], rfl, ⟨_, _, rfl, hz, ⟨_, _, rfl, irel_c.2 ⟨rfl, rfl⟩, rfl⟩⟩⟩, by simpa using hrun⟩
  · cases h
    exact ⟨z, hz, by simpa using hrun⟩

end Go.AM

namespace Go.AM
open Go.RowKit

variable {P : Program} {T : TT} {I : Nat → Prop} {w : World} {X : Hd} {H : List AObj}

theorem isOneCell_sound {v : AV} {x : Value} (h : isOneCell v = true) (hx : arel I w X v x) : x.oneCell' = true := by
  cases v with
  | i e =>
    cases e with
    | agg l => simp [isOneCell] at h
    | c u => obtain ⟨rfl, h2⟩ := irel_c.1 hx; exact h2
    | sl s ex n f => obtain ⟨a, cap, h1, _⟩ := hx; simp only [List.cons.injEq, and_true] at h1; subst h1; rfl
    | ptr e => obtain ⟨b, o, es, h1, _⟩ := hx; simp only [List.cons.injEq, and_true] at h1; subst h1; rfl
    | clo f l => obtain ⟨vs, h1, _⟩ := hx; simp only [List.cons.injEq, and_true] at h1; subst h1; rfl
  | agg l => simp [isOneCell] at h
  | tup l => simp [isOneCell] at h
  | osl id row => obtain ⟨_, a, n, c, rfl⟩ := hx; rfl
  | oel id row s j off => obtain ⟨b, _, rfl⟩ := hx; rfl
  | optr id off => obtain ⟨b, _, rfl⟩ := hx; rfl
  | clo f l => obtain ⟨vs, rfl, _⟩ := hx; rfl
  | omap id => obtain ⟨_, r, rfl⟩ := hx; rfl
  | opt g v => simp [isOneCell] at h
  | any => simp [isOneCell] at h

theorem cells_of_oneCell {x : Value} (h : x.oneCell' = true) : x.cells = #[x] := by
  cases x <;> first | rfl | (simp [Value.oneCell'] at h)

/-- what is known of the operands -/
def FOk (I : Nat → Prop) (w : World) (X : Hd) (len : Nat) (F : Operand → Option AV) (ρ : Operand → Value) (l : List Operand) : Prop :=
  ∀ x ∈ l, ∀ v, F x = some v → arel I w X v (ρ x) ∧ refs (below len) v = true

theorem FOk.mono {len : Nat} {F : Operand → Option AV} {ρ : Operand → Value} {l m : List Operand} (h : FOk I w X len F ρ l) (hs : ∀ x ∈ m, x ∈ l) : FOk I w X len F ρ m :=
  fun x hx => h x (hs x hx)

theorem fetchAll_sound {len : Nat} {F : Operand → Option AV} {ρ : Operand → Value} : ∀ {l : List Operand} {vs : List AV}, FOk I w X len F ρ l → fetchAll F l = some vs → arelAll I w X vs (l.map ρ) ∧ refsAll (below len) vs = true
  | [], vs, _, h => by simp only [fetchAll, Option.some.injEq] at h; subst h; exact ⟨rfl, rfl⟩
  | x :: l, vs, hF, h => by
    simp only [fetchAll] at h
    split at h
    · rename_i v r hv hr
      cases h
      obtain ⟨h1, h2⟩ := hF x (by simp) v hv
      obtain ⟨h3, h4⟩ := fetchAll_sound (hF.mono (by simp +contextual)) hr
      exact ⟨⟨_, _, rfl, h1, h3⟩, refsAll_cons.2 ⟨h2, h4⟩⟩
    · cases h

theorem allImm_clo : ∀ {l : List AV} {m : List IV} {cs : List Value}, allImm l = some m → (∀ v ∈ l, isOneCell v = true) → arelAll I w X l cs → crelAll I w m cs := by
  intro l m cs h h1 hc
  refine allImm_sound h hc ?_
  induction l generalizing cs m with
  | nil => simp only [arelAll] at hc; subst hc; simp
  | cons e l ih =>
    obtain ⟨v, r, rfl, h2, h3⟩ := hc
    cases e <;> simp only [allImm] at h <;> try (cases h; done)
    split at h
    · rename_i m' hm
      intro u hu
      simp only [List.mem_cons] at hu
      rcases hu with rfl | hu
      · exact isOneCell_sound (h1 _ (by simp)) h2
      · exact ih hm (fun v hv => h1 v (by simp [hv])) h3 u hu
    · cases h

theorem arelAll_set {l : List AV} {cs : List Value} (h : arelAll I w X l cs) {v : AV} {x : Value} (hv : arel I w X v x) : ∀ (o : Nat), arelAll I w X (l.set o v) (cs.set o x) := by
  induction l generalizing cs with
  | nil => intro o; simp only [arelAll] at h; subst h; simp [arelAll]
  | cons e l ih =>
    obtain ⟨u, r, rfl, h1, h2⟩ := h
    intro o
    cases o with
    | zero => exact ⟨x, r, by simp, hv, h2⟩
    | succ o => exact ⟨u, r.set o x, by simp, h1, ih h2 o⟩

theorem refsAll_set {p : Nat → Option Nat → Bool} {l : List AV} (h : refsAll p l = true) {v : AV} (hv : refs p v = true) : ∀ (o : Nat), refsAll p (l.set o v) = true := by
  induction l with
  | nil => intro o; simpa using h
  | cons e l ih =>
    rw [refsAll_cons] at h
    intro o
    cases o with
    | zero => rw [List.set_cons_zero, refsAll_cons]; exact ⟨hv, h.2⟩
    | succ o => rw [List.set_cons_succ, refsAll_cons]; exact ⟨h.1, ih h.2 o⟩

theorem arelAll_oneCell {l : List AV} {cs : List Value} (h : arelAll I w X l cs) (h1 : l.all isOneCell = true) : ∀ v ∈ cs, v.oneCell' = true := by
  induction l generalizing cs with
  | nil => simp only [arelAll] at h; subst h; simp
  | cons e l ih =>
    obtain ⟨u, r, rfl, h2, h3⟩ := h
    simp only [List.all_cons, Bool.and_eq_true] at h1
    intro v hv
    simp only [List.mem_cons] at hv
    rcases hv with rfl | hv
    · exact isOneCell_sound h1.1 h2
    · exact ih h3 h1.2 v hv

theorem fillStep {cs : List Value} {o : Nat} {v : Value} (hv : v.oneCell' = true) : v.cells.zipIdx.foldl (fun cs (c, j) => cs.setIfInBounds (o + j) c) cs.toArray = (cs.set o v).toArray := by
  rw [cells_of_oneCell hv]
  simp

theorem fill_sound {len : Nat} {F : Operand → Option AV} {ρ : Operand → Value} {arr : Array Field} {places : Array (Nat × Nat)}
    (hpl : ∀ (i : Nat) (fd : Field), arr[i]? = some fd → scalar T fd.type = true → places[i]? = some (fd.offset, 1)) :
    ∀ (parts : List (Nat × Operand)) (cells out : List AV) (cs : List Value), FOk I w X len F ρ (parts.map (·.2)) →
      fillParts T (arr.toList.map fun f => (f.offset, f.type)) F parts cells = some out → arelAll I w X cells cs → refsAll (below len) cells = true → (∀ v ∈ cs, v.oneCell' = true) →
      ∃ cs' : List Value, Instr.fill (places[·]?) cs.toArray (parts.map fun p => (p.1, ρ p.2)) = some cs'.toArray ∧ arelAll I w X out cs' ∧ refsAll (below len) out = true ∧ ∀ v ∈ cs', v.oneCell' = true := by
  intro parts
  induction parts with
  | nil =>
    intro cells out cs _ h hc hr h1
    simp only [fillParts, Option.some.injEq] at h
    subst h
    exact ⟨cs, by simp [Instr.fill], hc, hr, h1⟩
  | cons p parts ih =>
    obtain ⟨i, x⟩ := p
    intro cells out cs hF h hc hr h1
    simp only [fillParts] at h
    split at h
    · rename_i o ft v hfs hv
      split at h
      · rename_i hsc hlt hone
        rw [List.getElem?_map] at hfs
        cases ha : arr.toList[i]? with
        | none => rw [ha] at hfs; simp at hfs
        | some fd =>
          rw [ha] at hfs
          simp only [Option.map_some, Option.some.injEq, Prod.mk.injEq] at hfs
          obtain ⟨rfl, rfl⟩ := hfs
          have hp := hpl i fd (by simpa using ha) hsc
          obtain ⟨hx1, hx2⟩ := hF x (by simp) v hv
          have hlt' : fd.offset < cells.length := by simpa [Nat.blt_eq] using hlt
          have hcl := arelAll_length hc
          have hone' := isOneCell_sound hone hx1
          obtain ⟨cs', e1, e2, e3, e4⟩ := ih (cells.set fd.offset v) out (cs.set fd.offset (ρ x)) (hF.mono (by simp +contextual)) h (arelAll_set hc hx1 _) (refsAll_set hr hx2 _) (by
            intro u hu
            rcases List.mem_or_eq_of_mem_set hu with hu | rfl
            · exact h1 u hu
            · exact hone')
          refine ⟨cs', ?_, e2, e3, e4⟩
          rw [← e1]
          simp only [List.map_cons, Instr.fill, hp]
          have hsz : (ρ x).cells.size = 1 := by rw [cells_of_oneCell hone']; rfl
          rw [if_neg (by rw [hsz]; simp; omega), fillStep hone']
      · cases h
    · cases h

theorem zeros_rel (z : List Value) (h : ∀ v ∈ z, v.oneCell' = true) (n : Nat) : arelAll I w X (z.map fun v => .i (.c v)) z ∧ refsAll (below n) (z.map fun v => AV.i (.c v)) = true := by
  induction z with
  | nil => exact ⟨rfl, rfl⟩
  | cons v z ih =>
    obtain ⟨h1, h2⟩ := ih (fun u hu => h u (by simp [hu]))
    exact ⟨⟨v, z, rfl, irel_c.2 ⟨rfl, h v (by simp)⟩, h1⟩, refsAll_cons.2 ⟨rfl, h2⟩⟩

def placesOf (P : Program) (l : List Field) : List (Nat × Nat) := l.map fun f => (f.offset, P.cellsOf f.type)

theorem mapM_places (P : Program) (w' : World) : ∀ (l : List Field), (∀ fd ∈ l, ∃ info, P.info? fd.type = some info) →
    (l.mapM (fun f => do pure (f.offset, ← sizeOf f.type) : Field → Sem (Nat × Nat))).run P w' = .ok (placesOf P l) w'
  | [], _ => by simp [placesOf]
  | fd :: l, h => by
    have h1 := mapM_places P w' l (fun f hf => h f (by simp [hf]))
    obtain ⟨info, hi⟩ := h fd (by simp)
    rw [List.mapM_cons]
    simp only [sizeOf, typeInfo] at h1
    simp only [Sem.run_bind, Sem.run_pure, sizeOf, typeInfo, run_program, hi, Result.andThen_ok, h1]
    simp [placesOf, Program.cellsOf, hi]

theorem cellsOf_scalar (hT : TTok P T) {t : TypeId} (h : scalar T t = true) : P.cellsOf t = 1 := by
  unfold scalar at h
  split at h
  · cases h
  · cases h
  · rename_i hty
    obtain ⟨_, info, h2, h3, _⟩ := hT.ok t _ hty
    simp [Program.cellsOf, h2, h3]; exact Nat.eq_of_beq_eq_true h
  · cases h

theorem scalar_info (hT : TTok P T) {t : TypeId} (h : scalar T t = true) : ∃ info, P.info? t = some info := by
  unfold scalar at h
  split at h
  · cases h
  · cases h
  · rename_i hty; obtain ⟨_, info, h2, _⟩ := hT.ok t _ hty; exact ⟨info, h2⟩
  · cases h

theorem qBuild_sound (hT : TTok P T) {len : Nat} {F : Operand → Option AV} {ρ : Operand → Value} {t : TypeId} {parts : List (Nat × Operand)} {v : AV}
    (hF : FOk I w X len F ρ (parts.map (·.2))) (h : qBuild T F t parts = some v) :
    (∃ z, arel I w X v z ∧ ∀ w', (Instr.build t (parts.map fun p => (p.1, ρ p.2)).toArray).run P w' = .ok z w') ∧ refs (below len) v = true := by
  unfold qBuild at h
  split at h
  rotate_left
  · cases h
  rename_i fs eqk sz by' z hty
  split at h
  rotate_left
  · cases h
  rename_i cells hcells
  split at h
  rotate_left
  · cases h
  rename_i hall
  cases h
  obtain ⟨⟨arr, hu, hfs, _⟩, info, hi, hsz, _, hz, hzl, hz1⟩ := hT.ok t _ hty
  have hinfo : ∀ fd ∈ arr.toList, ∃ info, P.info? fd.type = some info := by
    intro fd hfd
    rw [List.all_eq_true] at hall
    exact scalar_info hT (hall (fd.offset, fd.type) (by rw [← hfs]; exact List.mem_map.2 ⟨fd, hfd, rfl⟩))
  obtain ⟨z1, z2⟩ := zeros_rel (I := I) (w := w) (X := X) z hz1 len
  subst hfs
  obtain ⟨cs', e1, e2, e3, e4⟩ := fill_sound (places := (placesOf P arr.toList).toArray) (arr := arr) (by
    intro i fd hi hs
    have : arr.toList[i]? = some fd := by simpa using hi
    simp only [placesOf, List.getElem?_toArray, List.getElem?_map, this, Option.map_some, cellsOf_scalar hT hs]) parts _ cells z hF hcells z1 z2 hz1
  refine ⟨⟨_, mkAgg_sound e2 e4, fun w' => ?_⟩, mkAgg_refs e3⟩
  have hzv : (zeroValue t).run P w' = .ok (.agg z.toArray) w' := by
    simp [zeroValue, typeInfo, hi, hz, TI.zv]
  have hmap : (arr.mapM (fun f => do pure (f.offset, ← sizeOf f.type) : Field → Sem (Nat × Nat))).run P w' = .ok (placesOf P arr.toList).toArray w' := by
    rw [Array.mapM_eq_mapM_toList]
    simp only [Sem.run_map, mapM_places P w' arr.toList hinfo, Result.andThen_ok]
  simp only [Instr.build, Sem.run_bind, hzv, Result.andThen_ok, Value.cells, run_underlying hu, hmap, List.toList_toArray, e1, Sem.run_pure]

end Go.AM

namespace Go.AM
open Go.RowKit

variable {C : Ctx} {env : Env} {H : List AObj} {I : Nat → Prop} {X X' : Hd} {tmps : Array Value} {w w' : World} {P : Program}

/-- the header of an object may change where no reference is kept -/
theorem orel_hd {n id : Nat} {o : AObj} (hX : ∀ id row, id < n → X'.val id row = X.val id row) (hid : id < n) (h : orel P I w X n id o) : orel P I w X' n id o := by
  cases o with
  | dead => trivial
  | box t cells =>
    obtain ⟨b, cs, h1, h2, h3, h4, h5⟩ := h
    refine ⟨b, cs, by rw [hX id none hid]; exact h1, h2, arelAll_congr (p := below n) (fun id row hb => hX id row (by simpa [below, Nat.blt_eq] using hb)) _ _ h5 h3, h4, h5⟩
  | arr fx t s n' f => show rowrel _ _ _ _ _ _ _; rw [hX id none hid]; exact h
  | arr2 fx t tr sr n' g hole =>
    obtain ⟨⟨xs, h1, h2, h3⟩, h4⟩ := h
    refine ⟨⟨xs, by rw [hX id none hid]; exact h1, h2, fun j hj hh => by rw [hX id _ hid]; exact h3 j hj hh⟩, fun j hj hh => by rw [hX id _ hid]; exact h4 j hj hh⟩
  | map k et card dom val =>
    obtain ⟨r, es, clock, h1, h2⟩ := h
    exact ⟨r, es, clock, by rw [hX id none hid]; exact h1, h2⟩

theorem blk_congr {id : Nat} {row : Option Nat} (h : X'.val id row = X.val id row) : X'.blk id row = X.blk id row := by unfold Hd.blk; rw [h]

theorem below_mono {n n' : Nat} (h : n ≤ n') : ∀ id row, below n id row = true → below n' id row = true := by
  intro id row hb; simp only [below, Nat.blt_eq] at *; omega

/-- a new object -/
theorem Rel.push (h : Rel C env H I X tmps w) (hs : Same w w') (v : Value) (o : AObj) (hlive : ∀ row, liveObj o row → row = none)
    (ho : ∀ X', X'.val H.length none = v → (∀ id row, id < H.length → X'.val id row = X.val id row) → orel C.P I w' X' (H.length + 1) H.length o)
    (hb : ∀ b, (match v with | .slice (some a) _ _ => some a.block | .pointer (some a) => some a.block | .map (some r) => some r | _ => none) = some b → w.heap.size ≤ b) :
    ∃ X', X'.val H.length none = v ∧ (∀ id row, id < H.length → X'.val id row = X.val id row) ∧ Rel C env (H ++ [o]) I X' tmps w' := by
  have hr := h.world hs
  let X' := X.put H.length none v
  have hX : ∀ id row, id < H.length → X'.val id row = X.val id row := fun id row hid => Hd.put_other _ _ _ _ (by omega)
  have hv : X'.val H.length none = v := Hd.put_same _ _ _ _
  refine ⟨X', hv, hX, ?_⟩
  have hlen : (H ++ [o]).length = H.length + 1 := by simp
  have hget : ∀ id, id < H.length → (H ++ [o])[id]? = H[id]? := fun id hid => List.getElem?_append_left hid
  have hnew : (H ++ [o])[H.length]? = some o := by simp
  have hl : ∀ id row, live (H ++ [o]) id row → (live H id row ∧ id < H.length) ∨ (id = H.length ∧ row = none) := by
    intro id row hl
    have hlt := live_lt hl
    rw [hlen] at hlt
    by_cases hid : id < H.length
    · exact .inl ⟨(live_push hid).1 hl, hid⟩
    · obtain rfl : id = H.length := by omega
      right
      refine ⟨rfl, hlive row ?_⟩
      unfold live at hl; rw [hnew] at hl; exact hl
  have hblk : ∀ b, X'.blk H.length none = some b → w.heap.size ≤ b := by
    intro b hb'
    refine hb b ?_
    unfold Hd.blk at hb'; rw [hv] at hb'; exact hb'
  refine ⟨hr.size, fun k u hk => ?_, ⟨?_, ?_, ?_⟩, hr.sub, hr.sup, hr.ilt, ?_, hr.keep, fun k hk => ?_⟩
  · obtain ⟨a, b, c⟩ := hr.env k u hk
    exact ⟨a, by rw [hlen]; exact refs_mono (below_mono (by omega)) _ b, arel_congr (p := below H.length) (fun id row hb => hX id row (by simpa [below, Nat.blt_eq] using hb)) _ _ b c⟩
  · intro id o' ho'
    by_cases hid : id < H.length
    · rw [hget id hid] at ho'
      have h1 := hr.hok.obj id o' ho'
      have h2 := orel_hd hX hid h1
      rw [hlen]
      exact orel_frame (fun _ h => h) (fun _ _ => rfl) (by omega) H ho' (fun _ _ _ _ => rfl) h2
    · have hlt := (List.getElem?_eq_some_iff.1 ho').1
      rw [hlen] at hlt
      obtain rfl : id = H.length := by omega
      rw [hnew] at ho'; cases ho'
      rw [hlen]
      exact ho X' hv hX
  · intro id row id' row' b h1 h2 h3 h4
    rcases hl id row h1 with ⟨h5, h6⟩ | ⟨rfl, rfl⟩ <;> rcases hl id' row' h2 with ⟨h7, h8⟩ | ⟨rfl, rfl⟩
    · rw [blk_congr (hX id row h6)] at h3; rw [blk_congr (hX id' row' h8)] at h4
      exact hr.hok.inj id row id' row' b h5 h7 h3 h4
    · rw [blk_congr (hX id row h6)] at h3
      have := blk_lt_of_orel h.hok h5 h3
      have := hblk b h4
      omega
    · rw [blk_congr (hX id' row' h8)] at h4
      have := blk_lt_of_orel h.hok h7 h4
      have := hblk b h3
      omega
    · exact ⟨rfl, rfl⟩
  · intro id row b h1 h3
    rcases hl id row h1 with ⟨h5, h6⟩ | ⟨rfl, rfl⟩
    · rw [blk_congr (hX id row h6)] at h3
      exact hr.hok.off id row b h5 h3
    · intro hI
      have := h.ilt b hI
      have := hblk b h3
      omega
  · intro id row b h1 h3
    rcases hl id row h1 with ⟨h5, h6⟩ | ⟨rfl, rfl⟩
    · rw [blk_congr (hX id row h6)] at h3
      exact hr.own id row b h5 h3
    · right
      have := hblk b h3
      have := h.keep.size
      omega
  · obtain ⟨⟨o', h1, h2⟩, h3⟩ := hr.hfx k hk
    have hlt := (List.getElem?_eq_some_iff.1 h1).1
    exact ⟨⟨o', by rw [hget k hlt]; exact h1, h2⟩, by rw [hX k none hlt]; exact h3⟩

/-- an object changes in place: one block is written -/
theorem Rel.modify (h : Rel C env H I X tmps w) {id : Nat} {row : Option Nat} {o o' : AObj} {b : Nat} (hid : H[id]? = some o) (hlive : liveObj o row) (hblk : X.blk id row = some b)
    (hos : w'.os = w.os) (htp : w'.tape = w.tape) (hout : w'.output = w.output) (hsz : w'.heap.size = w.heap.size) (hother : ∀ k, k ≠ b → w'.heap[k]? = w.heap[k]?)
    (hl : ∀ row, liveObj o' row ↔ liveObj o row) (hfo : fixedObj o = true → fixedObj o' = true) (ho : orel C.P I w' X H.length id o') :
    Rel C env (H.set id o') I X tmps w' := by
  have hlt : id < H.length := (List.getElem?_eq_some_iff.1 hid).1
  have hlv : live H id row := by unfold live; rw [hid]; exact hlive
  have hnI : ¬ I b := h.hok.off id row b hlv hblk
  have hIw : ∀ k, I k → w'.heap[k]? = w.heap[k]? := fun k hk => hother k (fun e => hnI (e ▸ hk))
  have hlen : (H.set id o').length = H.length := by simp
  have hl' : ∀ i r, live (H.set id o') i r ↔ live H i r := by
    intro i r
    by_cases hi : i = id
    · subst hi
      unfold live
      rw [List.getElem?_set_self hlt, hid]
      exact hl r
    · unfold live
      rw [List.getElem?_set_ne (Ne.symm hi)]
  refine ⟨h.size, fun k u hk => ?_, ⟨?_, ?_, ?_⟩, h.sub, h.sup, fun k hk => ?_, ?_, ?_, fun k hk => ?_⟩
  · obtain ⟨a, c, d⟩ := h.env k u hk
    exact ⟨a, by rw [hlen]; exact c, arel_mono (fun _ h => h) hIw _ _ d⟩
  · intro i o2 hi2
    rw [hlen]
    by_cases hi : i = id
    · subst hi
      rw [List.getElem?_set_self hlt] at hi2
      cases hi2
      exact ho
    · rw [List.getElem?_set_ne (Ne.symm hi)] at hi2
      refine orel_frame (fun _ h => h) hIw (Nat.le_refl _) H hi2 (fun r k hlr hkr => hother k (fun e => ?_)) (h.hok.obj i o2 hi2)
      subst e
      exact hi (h.hok.inj i r id row k hlr hlv hkr hblk).1
  · intro i r i' r' k h1 h2 h3 h4
    exact h.hok.inj i r i' r' k ((hl' i r).1 h1) ((hl' i' r').1 h2) h3 h4
  · intro i r k h1 h3
    exact h.hok.off i r k ((hl' i r).1 h1) h3
  · rw [hsz]; exact h.ilt k hk
  · intro i r k h1 h3
    exact h.own i r k ((hl' i r).1 h1) h3
  · refine h.keep.step hos htp hout (by omega) (fun k hk hO hk0 => hother k (fun e => ?_))
    subst e
    rcases h.own id row k hlv hblk with h1 | h1
    · exact hO h1
    · omega
  · obtain ⟨⟨o2, h1, h2⟩, h3⟩ := h.hfx k hk
    refine ⟨?_, h3⟩
    by_cases hki : k = id
    · subst hki
      rw [hid] at h1; cases h1
      exact ⟨o', by rw [List.getElem?_set_self hlt], hfo h2⟩
    · exact ⟨o2, by rw [List.getElem?_set_ne (Ne.symm hki)]; exact h1, h2⟩

end Go.AM

namespace Go.AM
open Go.RowKit

variable {C : Ctx} {env : Env} {H : List AObj} {I : Nat → Prop} {X X' : Hd} {tmps : Array Value} {w w' : World} {P : Program} {T : TT}

/-! ### refs that go stale -/
def notId (id : Nat) (i : Nat) (_ : Option Nat) : Bool := match Nat.beq i id with | true => false | false => true
def kill (id : Nat) (v : AV) : AV := match refs (notId id) v with | true => v | false => .any
def killE (id : Nat) : Env → Env
  | [] => []
  | (k, v) :: r => (k, kill id v) :: killE id r
def killL (id : Nat) : List AV → List AV
  | [] => []
  | v :: r => kill id v :: killL id r
def killO (id : Nat) : AObj → AObj
  | .box t cells => .box t (killL id cells)
  | o => o
def killH (id : Nat) : List AObj → List AObj
  | [] => []
  | o :: r => killO id o :: killH id r

theorem notId_iff {id i : Nat} {r : Option Nat} : notId id i r = true ↔ i ≠ id := by
  unfold notId
  by_cases h : i = id
  · subst h; simp
  · have : Nat.beq i id = false := by cases hb : Nat.beq i id with | false => rfl | true => exact (h (Nat.eq_of_beq_eq_true hb)).elim
    simp [this, h]

theorem get_killE (id k : Nat) : ∀ env : Env, get (killE id env) k = (get env k).map (kill id)
  | [] => rfl
  | (k', v) :: r => by
    show get ((k', kill id v) :: killE id r) k = _
    rw [get_cons, get_cons, get_killE id k r]
    split <;> rfl

theorem kill_refs (id : Nat) (v : AV) : refs (notId id) (kill id v) = true := by
  unfold kill; split
  · assumption
  · rfl

theorem kill_rel (id : Nat) {v : AV} {x : Value} (h : arel I w X v x) : arel I w X (kill id v) x := by
  unfold kill; split
  · exact h
  · trivial

theorem kill_below {p : Nat → Option Nat → Bool} (id : Nat) {v : AV} (h : refs p v = true) : refs p (kill id v) = true := by
  unfold kill; split
  · exact h
  · rfl

theorem killL_rel (id : Nat) : ∀ {l : List AV} {cs : List Value}, arelAll I w X l cs → arelAll I w X (killL id l) cs
  | [], _, h => h
  | _ :: _, _, ⟨v, r, h1, h2, h3⟩ => ⟨v, r, h1, kill_rel id h2, killL_rel id h3⟩

theorem killL_refs (id : Nat) : ∀ (l : List AV), refsAll (notId id) (killL id l) = true
  | [] => rfl
  | v :: r => refsAll_cons.2 ⟨kill_refs id v, killL_refs id r⟩

theorem killL_below {p : Nat → Option Nat → Bool} (id : Nat) : ∀ {l : List AV}, refsAll p l = true → refsAll p (killL id l) = true
  | [], _ => rfl
  | v :: r, h => by rw [refsAll_cons] at h; exact refsAll_cons.2 ⟨kill_below id h.1, killL_below id h.2⟩

theorem killL_length (id : Nat) : ∀ l : List AV, (killL id l).length = l.length
  | [] => rfl
  | _ :: r => by simp [killL, killL_length id r]

theorem killH_length (id : Nat) : ∀ H : List AObj, (killH id H).length = H.length
  | [] => rfl
  | _ :: r => by simp [killH, killH_length id r]

theorem killH_get (id i : Nat) : ∀ H : List AObj, (killH id H)[i]? = (H[i]?).map (killO id)
  | [] => by simp [killH]
  | o :: r => by
    cases i with
    | zero => simp [killH]
    | succ i => simpa [killH] using killH_get id i r

theorem liveObj_kill (id : Nat) (o : AObj) (row : Option Nat) : liveObj (killO id o) row ↔ liveObj o row := by cases o <;> rfl
theorem fixedObj_kill (id : Nat) (o : AObj) : fixedObj (killO id o) = fixedObj o := by cases o <;> rfl

theorem live_killH (id i : Nat) (row : Option Nat) : live (killH id H) i row ↔ live H i row := by
  unfold live
  rw [killH_get]
  cases H[i]? with
  | none => rfl
  | some o => exact liveObj_kill id o row

/-- The header of object `id` (whose references have been struck) changes; its block is written, or a new one is made. -/
theorem Rel.rehead (h : Rel C env H I X tmps w) {id : Nat} {o o' : AObj} (hid : H[id]? = some o) (hlive : ∀ row, liveObj o row ↔ row = none) (hlive' : ∀ row, liveObj o' row ↔ row = none)
    (hfx : fixedObj o = false) (v' : Value)
    (hos : w'.os = w.os) (htp : w'.tape = w.tape) (hout : w'.output = w.output) (hsz : w.heap.size ≤ w'.heap.size)
    (hother : ∀ k, k < w.heap.size → X.blk id none ≠ some k → w'.heap[k]? = w.heap[k]?)
    (hb : ∀ b, (X.put id none v').blk id none = some b → X.blk id none = some b ∨ w.heap.size ≤ b)
    (ho : ∀ X', X'.val id none = v' → orel C.P I w' X' H.length id o') (hnb : ∀ t cells, o' ≠ .box t cells) :
    Rel C (killE id env) ((killH id H).set id o') I (X.put id none v') tmps w' := by
  have hlt : id < H.length := (List.getElem?_eq_some_iff.1 hid).1
  have hlv : live H id none := by unfold live; rw [hid]; exact (hlive none).2 rfl
  let X' := X.put id none v'
  have hX : ∀ i r, i ≠ id → X'.val i r = X.val i r := fun i r hi => Hd.put_other _ _ _ _ (fun e => hi e.1)
  have hIw : ∀ k, I k → w'.heap[k]? = w.heap[k]? := fun k hk => hother k (h.ilt k hk) (fun e => h.hok.off id none k hlv e hk)
  have hlen : ((killH id H).set id o').length = H.length := by simp [killH_length]
  have hl' : ∀ i r, live ((killH id H).set id o') i r ↔ (i = id ∧ r = none) ∨ (i ≠ id ∧ live H i r) := by
    intro i r
    by_cases hi : i = id
    · subst hi
      unfold live
      rw [List.getElem?_set_self (by rw [killH_length]; exact hlt)]
      simp [hlive' r]
    · have e : ((killH id H).set id o')[i]? = (killH id H)[i]? := by rw [List.getElem?_set_ne (Ne.symm hi)]
      have : live ((killH id H).set id o') i r ↔ live (killH id H) i r := by unfold live; rw [e]
      rw [this, live_killH]
      simp [hi]
  have hfix : C.fx id = true → False := by
    intro hk
    obtain ⟨⟨o2, h1, h2⟩, _⟩ := h.hfx id hk
    rw [hid] at h1; cases h1
    rw [hfx] at h2; cases h2
  refine ⟨h.size, fun k u hk => ?_, ⟨?_, ?_, ?_⟩, h.sub, h.sup, fun k hk => Nat.lt_of_lt_of_le (h.ilt k hk) hsz, ?_, ?_, fun k hk => ?_⟩
  · rw [get_killE] at hk
    cases hg : get env k with
    | none => rw [hg] at hk; cases hk
    | some u0 =>
      rw [hg] at hk
      simp only [Option.map_some, Option.some.injEq] at hk
      subst hk
      obtain ⟨a, c, d⟩ := h.env k u0 hg
      exact ⟨a, by rw [hlen]; exact kill_below id c, arel_congr (p := notId id) (fun i r hi => hX i r (notId_iff.1 hi)) _ _ (kill_refs id u0) (kill_rel id (arel_mono (fun _ h => h) hIw _ _ d))⟩
  · intro i o2 hi2
    rw [hlen]
    by_cases hi : i = id
    · subst hi
      rw [List.getElem?_set_self (by rw [killH_length]; exact hlt)] at hi2
      cases hi2
      exact ho X' (Hd.put_same _ _ _ _)
    · rw [List.getElem?_set_ne (Ne.symm hi), killH_get] at hi2
      cases hg : H[i]? with
      | none => rw [hg] at hi2; cases hi2
      | some o3 =>
        rw [hg] at hi2
        simp only [Option.map_some, Option.some.injEq] at hi2
        subst hi2
        have h1 : orel C.P I w' X H.length i o3 := orel_frame (fun _ h => h) hIw (Nat.le_refl _) H hg (fun r k hlr hkr => hother k (blk_lt_of_orel h.hok hlr hkr) (fun e => hi (h.hok.inj i r id none k hlr hlv hkr e).1)) (h.hok.obj i o3 hg)
        cases o3 with
        | dead => trivial
        | box t cells =>
          obtain ⟨b, cs, h2, h3, h4, h5, h6⟩ := h1
          exact ⟨b, cs, by rw [hX i none hi]; exact h2, h3, arelAll_congr (p := notId id) (fun j r hj => hX j r (notId_iff.1 hj)) _ _ (killL_refs id _) (killL_rel id h4), h5, killL_below id h6⟩
        | arr fx t s n' f => show rowrel _ _ _ _ _ _ _; rw [hX i none hi]; exact h1
        | arr2 fx t tr sr n' g hole =>
          obtain ⟨⟨xs, h1, h2, h3⟩, h4⟩ := h1
          exact ⟨⟨xs, by rw [hX i none hi]; exact h1, h2, fun j hj hh => by rw [hX i _ hi]; exact h3 j hj hh⟩, fun j hj hh => by rw [hX i _ hi]; exact h4 j hj hh⟩
        | map k et card dom val =>
          obtain ⟨r, es, clock, h1, h2⟩ := h1
          exact ⟨r, es, clock, by rw [hX i none hi]; exact h1, h2⟩
  · intro i r i' r' b h1 h2 h3 h4
    have new : ∀ i r, i ≠ id → live H i r → X'.blk i r = some b → X'.blk id none = some b → False := by
      intro i r hi hlr h5 h6
      rw [blk_congr (hX i r hi)] at h5
      rcases hb b h6 with h7 | h7
      · exact hi (h.hok.inj i r id none b hlr hlv h5 h7).1
      · have := blk_lt_of_orel h.hok hlr h5; omega
    rcases (hl' i r).1 h1 with ⟨rfl, rfl⟩ | ⟨hi, hlr⟩ <;> rcases (hl' i' r').1 h2 with ⟨rfl, rfl⟩ | ⟨hi', hlr'⟩
    · exact ⟨rfl, rfl⟩
    · exact (new i' r' hi' hlr' h4 h3).elim
    · exact (new i r hi hlr h3 h4).elim
    · rw [blk_congr (hX i r hi)] at h3; rw [blk_congr (hX i' r' hi')] at h4
      exact h.hok.inj i r i' r' b hlr hlr' h3 h4
  · intro i r b h1 h3 hI
    rcases (hl' i r).1 h1 with ⟨rfl, rfl⟩ | ⟨hi, hlr⟩
    · rcases hb b h3 with h7 | h7
      · exact h.hok.off i none b hlv h7 hI
      · have := h.ilt b hI; omega
    · rw [blk_congr (hX i r hi)] at h3
      exact h.hok.off i r b hlr h3 hI
  · intro i r b h1 h3
    rcases (hl' i r).1 h1 with ⟨rfl, rfl⟩ | ⟨hi, hlr⟩
    · rcases hb b h3 with h7 | h7
      · exact h.own i none b hlv h7
      · right; have := h.keep.size; omega
    · rw [blk_congr (hX i r hi)] at h3
      exact h.own i r b hlr h3
  · refine h.keep.step hos htp hout hsz (fun k hk hO hk0 => hother k hk (fun e => ?_))
    rcases h.own id none k hlv e with h1 | h1
    · exact hO h1
    · omega
  · have hki : k ≠ id := fun e => hfix (e ▸ hk)
    obtain ⟨⟨o2, h1, h2⟩, h3⟩ := h.hfx k hk
    refine ⟨⟨killO id o2, by rw [List.getElem?_set_ne (Ne.symm hki), killH_get, h1]; rfl, by rw [fixedObj_kill]; exact h2⟩, by rw [hX k none hki]; exact h3⟩

end Go.AM

