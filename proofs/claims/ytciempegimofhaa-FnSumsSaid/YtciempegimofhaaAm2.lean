/- An abstract machine over the kit's walk: own lemmas, one part. -/
import Derived.Test.YtciempegimofhaaAm1
set_option linter.unusedSectionVars false
set_option linter.unusedSimpArgs false
set_option linter.unusedVariables false
set_option linter.unnecessarySimpa false
namespace Go.AM
open Go.RowKit

variable {C : Ctx} {env : Env} {H : List AObj} {I : Nat → Prop} {X X' : Hd} {tmps : Array Value} {w w' : World} {P : Program} {T : TT}

/-- what a step may do to the world: new blocks, and the one block named -/
structure Steps1 (own : Option Nat) (w w' : World) : Prop where
  os : w'.os = w.os
  tape : w'.tape = w.tape
  output : w'.output = w.output
  size : w.heap.size ≤ w'.heap.size
  other : ∀ k, k < w.heap.size → own ≠ some k → w'.heap[k]? = w.heap[k]?

theorem Steps1.refl (own : Option Nat) (w : World) : Steps1 own w w := ⟨rfl, rfl, rfl, Nat.le_refl _, fun _ _ _ => rfl⟩
theorem Steps1.alloc (own : Option Nat) (w : World) (o : Obj) : Steps1 own w (w.drew.alloc o) := ⟨rfl, rfl, rfl, by simp, fun k hk _ => Below.heap_alloc w.drew o k hk⟩

theorem size_zero (z : Array Value) (n : Nat) : (Builtin.zeroCells z n).size = n * z.size := by simp [Builtin.zeroCells]

/-- a source of new elements: its cells -/
def Src (w : World) (s : Nat) (x : Value) (m : Nat) (news : List Value) : Prop :=
  news.length = m * s ∧ (∀ u ∈ news, u.oneCell' = true) ∧ ∃ ax cx, x = .slice ax m cx ∧ (m = 0 ∨ ∃ a, ax = some a ∧ ∀ j u, news[j]? = some u → w.cell? (a.add j) = some u)

theorem run_append_cases (t ty e : TypeId) (i : TypeInfo) (z : Value) (ht : P.underlying t = some (.slice e)) (hi : P.info? e = some i) (hz : i.zero = some z) (hzs : z.cells.size = i.size) (hs : 0 < i.size) (hby : 0 < i.bytes)
    {v : Value} {n : Nat} {xs : List Value} (hown : w.ownsRow 0 e i.size v n xs) {x : Value} {m : Nat} {news : List Value} (hsrc : Src w i.size x m news) (hbytes : (n + m) * i.bytes ≤ 140737488355328) :
    ∃ v' w', (Builtin.append_ #[t, t] ty #[v, x]).run P w = .ok v' w' ∧ w'.ownsRow 0 e i.size v' (n + m) (xs ++ news) ∧ Steps1 v.ownBlock w w' ∧ (∀ b, v'.ownBlock = some b → v.ownBlock = some b ∨ w.heap.size ≤ b) := by
  obtain ⟨hl, h1, ax, cx, rfl, hsrc⟩ := hsrc
  have hlen : (xs ++ news).length = (n + m) * i.size := by rw [List.length_append, hown.1, hl, Nat.add_mul]
  have hnm : n + m ≤ 140737488355328 := Nat.le_trans (Nat.le_mul_of_pos_right _ hby) hbytes
  have hml : n + m ≤ maxLen := by simp only [maxLen]; omega
  by_cases hm : m = 0
  · subst hm
    have hn0 : news = [] := List.eq_nil_of_length_eq_zero (by simpa using hl)
    subst hn0
    have hf : (Builtin.firstCells i.size 0 (.slice ax 0 cx)).run P w = .ok #[] w := by
      cases ax <;> simp [Builtin.firstCells, loadCells, loadCellsFrom]
    have hv : ∃ a cap, v = .slice a n cap ∧ n ≤ cap := by
      rcases hown.2 with ⟨rfl, rfl⟩ | ⟨g, cap, cur, rfl, _, _, hc, _⟩
      · exact ⟨none, 0, rfl, Nat.le_refl _⟩
      · exact ⟨_, cap, rfl, hc⟩
    obtain ⟨a, cap, rfl, hc⟩ := hv
    refine ⟨.slice a n cap, w, ?_, by simpa using hown, Steps1.refl _ _, fun b hb => .inl hb⟩
    cases a <;> simp [Builtin.append_, run_underlying ht, sizeOf, typeInfo, hi, Builtin.lenOf, hc, hf, storeCells]
  obtain ⟨a, rfl, hnews⟩ := hsrc.resolve_left hm
  have grown : ∀ (old : Nat), old < n + m →
      (w.drew.alloc (.cells (xs.toArray ++ news.toArray ++ Builtin.zeroCells z.cells (grownCap w (n + m) old e - (n + m))) e)).ownsRow 0 e i.size
        (.slice (some ⟨w.heap.size, 0, none⟩) (n + m) (grownCap w (n + m) old e)) (n + m) (xs ++ news) := by
    intro old ho
    have hge := grownCap_ge w (n + m) old e
    have hcm : grownCap w (n + m) old e ≤ maxLen := grownCap_le_maxLen w (n + m) old e hml
    refine ⟨hlen, .inr ⟨w.heap.size, _, _, rfl, Nat.zero_le _, heap_alloc_new w.drew _, hge, hcm, ?_, ?_⟩⟩
    · simp only [Array.size_append, List.size_toArray, size_zero, hzs, hown.1, hl, ← Nat.add_mul]
      congr 1
      omega
    · simp only [Array.toList_append, List.append_assoc]
      rw [← List.append_assoc, ← hlen]
      exact List.take_left
  have hown' := hown
  obtain ⟨hown0, hown2⟩ := hown
  rcases hown2 with ⟨rfl, rfl⟩ | ⟨g, cap, cur, rfl, hbg, hg, hnc, hcm, hcs, htake⟩
  · have hx : xs = [] := List.eq_nil_of_length_eq_zero (by simpa using hown0)
    subst hx
    have hr := run_append_nil (P := P) w t ty e i z ht hi hz a m cx news hl hnews (by omega) (by omega) (by have hb := hbytes; simp only [Nat.zero_add] at hb; omega)
    have hgr := grown 0 (by omega)
    simp only [Nat.zero_add, List.nil_append, Array.empty_append] at hgr ⊢
    exact ⟨_, _, hr, hgr, Steps1.alloc _ _ _, fun b hb => .inr (by simp [Value.ownBlock] at hb; omega)⟩
  · by_cases hroom : n + m ≤ cap
    · have hfit : n * i.size + news.length ≤ cur.size := by rw [hl, hcs, ← Nat.add_mul]; exact Nat.mul_le_mul_right _ hroom
      have hr := run_append_room (P := P) w t ty e i ht hi g n cap cur hg a m cx news hl hnews h1 hroom hfit
      refine ⟨_, _, hr, ⟨hlen, .inr ⟨g, cap, _, rfl, Nat.zero_le _, setRow_heap w g cur _ e _ hg, hroom, hcm, ?_, ?_⟩⟩, ⟨rfl, rfl, rfl, by simp, fun k _ hk => setRow_other w g k _ (fun e => hk (by simp [Value.ownBlock, e]))⟩, fun b hb => .inl hb⟩
      · simp only [List.size_toArray, List.length_append, List.length_take, List.length_drop, Array.length_toList]
        omega
      · rw [htake, ← hlen]
        exact List.take_left
    · have holds : ∀ j u, xs[j]? = some u → w.cell? ((⟨g, 0, none⟩ : Addr).add j) = some u := hown'.cells (g := g) rfl
      have hr := run_append_grow (P := P) w t ty e i z ht hi hz ⟨g, 0, none⟩ n cap xs hown0 holds a m cx news hl hnews (by omega) (by omega) (growslice_fits (by omega) hbytes)
      have hgr := grown cap (by omega)
      exact ⟨_, _, hr, hgr, Steps1.alloc _ _ _, fun b hb => .inr (by simp [Value.ownBlock] at hb; omega)⟩

/-- onto a slice whose capacity is its length: always a copy -/
theorem run_append_exact (t ty e : TypeId) (i : TypeInfo) (z : Value) (ht : P.underlying t = some (.slice e)) (hi : P.info? e = some i) (hz : i.zero = some z) (hzs : z.cells.size = i.size) (hby : 0 < i.bytes)
    {ab : Addr} {n : Nat} {xs : List Value} (hxl : xs.length = n * i.size) (hx : ∀ j u, xs[j]? = some u → w.cell? (ab.add j) = some u) {x : Value} {m : Nat} {news : List Value} (hsrc : Src w i.size x m news) (hm : 0 < m) (hbytes : (n + m) * i.bytes ≤ 140737488355328) :
    ∃ v' w', (Builtin.append_ #[t, t] ty #[.slice (some ab) n n, x]).run P w = .ok v' w' ∧ w'.ownsRow 0 e i.size v' (n + m) (xs ++ news) ∧ Same w w' ∧ (∀ b, v'.ownBlock = some b → w.heap.size ≤ b) := by
  obtain ⟨hl, h1, ax, cx, rfl, hsrc⟩ := hsrc
  have hlen : (xs ++ news).length = (n + m) * i.size := by rw [List.length_append, hxl, hl, Nat.add_mul]
  have hnm : n + m ≤ 140737488355328 := Nat.le_trans (Nat.le_mul_of_pos_right _ hby) hbytes
  have hml : n + m ≤ maxLen := by simp only [maxLen]; omega
  obtain ⟨a, rfl, hnews⟩ := hsrc.resolve_left (by omega)
  have hr := run_append_grow (P := P) w t ty e i z ht hi hz ab n n xs hxl hx a m cx news hl hnews (by omega) (by omega) (growslice_fits (by omega) hbytes)
  refine ⟨_, _, hr, ?_, (Same.drew w).trans (Same.alloc _ _), fun b hb => by simp [Value.ownBlock] at hb; omega⟩
  have hge := grownCap_ge w (n + m) n e
  have hcm : grownCap w (n + m) n e ≤ maxLen := grownCap_le_maxLen w (n + m) n e hml
  refine ⟨hlen, .inr ⟨w.heap.size, _, _, rfl, Nat.zero_le _, heap_alloc_new w.drew _, hge, hcm, ?_, ?_⟩⟩
  · simp only [Array.size_append, List.size_toArray, size_zero, hzs, hxl, hl, ← Nat.add_mul]
    congr 1
    omega
  · simp only [Array.toList_append, List.append_assoc]
    rw [← List.append_assoc, ← hlen]
    exact List.take_left

/-! ### the cells of a source -/
mutual
theorem crel_one_all : ∀ (e : IV) (cs : List Value), crel I w e cs → ∀ v ∈ cs, v.oneCell' = true
  | .c v, cs, h => by obtain ⟨rfl, h⟩ := h; simpa using h
  | .agg l, cs, h => crelAll_one_all l cs h
  | .sl _ _ _ _, _, h => by obtain ⟨a, cap, rfl, _⟩ := h; simp [Value.oneCell']
  | .ptr _, _, h => by obtain ⟨b, o, es, rfl, _⟩ := h; simp [Value.oneCell']
  | .clo _ _, _, h => by obtain ⟨vs, rfl, _⟩ := h; simp [Value.oneCell']
theorem crelAll_one_all : ∀ (l : List IV) (cs : List Value), crelAll I w l cs → ∀ v ∈ cs, v.oneCell' = true
  | [], _, h => by simp only [crelAll] at h; subst h; simp
  | e :: l, _, h => by
    obtain ⟨v, r, rfl, h1, h2⟩ := h
    intro u hu
    simp only [List.mem_cons] at hu
    rcases hu with rfl | hu
    · exact crel_one_all e [u] h1 u (by simp)
    · exact crelAll_one_all l r h2 u hu
end

/-- elements as a flat list -/
def flatOk (I : Nat → Prop) (w : World) (s n : Nat) (f : Nat → IV) (xs : List Value) : Prop :=
  xs.length = n * s ∧ ∀ j, j < n → ∃ es, es.length = s ∧ crel I w (f j) es ∧ ∀ (k : Nat) v, es[k]? = some v → xs[j * s + k]? = some v

theorem flatOk_one {s n : Nat} {f : Nat → IV} {xs : List Value} (h : flatOk I w s n f xs) (hs : 0 < s) : ∀ v ∈ xs, v.oneCell' = true := by
  intro v hv
  obtain ⟨k, hk⟩ := List.getElem?_of_mem hv
  have hlt : k < n * s := by rw [← h.1]; exact (List.getElem?_eq_some_iff.1 hk).1
  have hdm : s * (k / s) + k % s = k := Nat.div_add_mod k s
  have hj : k / s < n := Nat.div_lt_of_lt_mul (by rw [Nat.mul_comm]; exact hlt)
  obtain ⟨es, e1, e2, e3⟩ := h.2 (k / s) hj
  have hm : k % s < es.length := by rw [e1]; exact Nat.mod_lt _ hs
  have e4 := e3 (k % s) es[k % s] (by simp [hm])
  rw [Nat.mul_comm, hdm, hk] at e4
  cases e4
  exact crel_one_all _ _ e2 _ (List.getElem_mem _)

theorem flat_exists {s n b o : Nat} {f : Nat → IV} (h : ∀ j, j < n → ∃ es, es.length = s ∧ crel I w (f j) es ∧ cellsAt w b (o + j * s) es) :
    ∃ xs, flatOk I w s n f xs ∧ cellsAt w b o xs := by
  induction n with
  | zero => exact ⟨[], ⟨by simp, fun j hj => absurd hj (by omega)⟩, fun k v hk => by simp at hk⟩
  | succ n ih =>
    obtain ⟨xs, ⟨h1, h2⟩, h3⟩ := ih (fun j hj => h j (by omega))
    obtain ⟨es, e1, e2, e3⟩ := h n (by omega)
    refine ⟨xs ++ es, ⟨by simp [h1, e1, Nat.add_mul], fun j hj => ?_⟩, fun k v hk => ?_⟩
    · by_cases hjn : j < n
      · obtain ⟨es', g1, g2, g3⟩ := h2 j hjn
        refine ⟨es', g1, g2, fun k v hk => ?_⟩
        have := g3 k v hk
        rw [List.getElem?_append_left (List.getElem?_eq_some_iff.1 this).1]; exact this
      · obtain rfl : j = n := by omega
        refine ⟨es, e1, e2, fun k v hk => ?_⟩
        rw [List.getElem?_append_right (by omega), h1]
        simpa using hk
    · rw [List.getElem?_append] at hk
      split at hk
      · exact h3 k v hk
      · have := e3 (k - xs.length) v hk
        rw [h1] at this
        rename_i hlt
        rw [show o + n * s + (k - n * s) = o + k by rw [h1] at hlt; omega] at this
        exact this

theorem rowrel_flat {t : TypeId} {s : Nat} {v : Value} {n : Nat} {f : Nat → IV} (h : rowrel I w t s v n f) : ∃ xs, w.ownsRow 0 t s v n xs ∧ flatOk I w s n f xs := by
  obtain ⟨xs, h1, h2⟩ := h
  exact ⟨xs, h1, h1.1, h2⟩

theorem rowrel_of_flat {t : TypeId} {s : Nat} {v : Value} {n : Nat} {f : Nat → IV} {xs : List Value} (h1 : w.ownsRow 0 t s v n xs) (h2 : flatOk I w s n f xs) : rowrel I w t s v n f := ⟨xs, h1, h2.2⟩

def appF (n : Nat) (f g : Nat → IV) : Nat → IV := fun j => if j < n then f j else g (j - n)

theorem flatOk_append {s n m : Nat} {f g : Nat → IV} {xs ys : List Value} (h1 : flatOk I w s n f xs) (h2 : flatOk I w s m g ys) : flatOk I w s (n + m) (appF n f g) (xs ++ ys) := by
  refine ⟨by simp [h1.1, h2.1, Nat.add_mul], fun j hj => ?_⟩
  by_cases hjn : j < n
  · obtain ⟨es, g1, g2, g3⟩ := h1.2 j hjn
    refine ⟨es, g1, by simpa [appF, hjn] using g2, fun k v hk => ?_⟩
    have := g3 k v hk
    rw [List.getElem?_append_left (List.getElem?_eq_some_iff.1 this).1]; exact this
  · obtain ⟨es, g1, g2, g3⟩ := h2.2 (j - n) (by omega)
    refine ⟨es, g1, by simpa [appF, hjn] using g2, fun k v hk => ?_⟩
    have := g3 k v hk
    have hle : n * s ≤ j * s := Nat.mul_le_mul_right _ (by omega)
    rw [List.getElem?_append_right (by rw [h1.1]; omega), h1.1, show j * s + k - n * s = (j - n) * s + k by rw [Nat.sub_mul]; omega]
    exact this

theorem flatOk_mono {I I' : Nat → Prop} {w w' : World} {s n : Nat} {f : Nat → IV} {xs : List Value} (hI : ∀ b, I b → I' b) (hw : ∀ b, I b → w'.heap[b]? = w.heap[b]?) (h : flatOk I w s n f xs) : flatOk I' w' s n f xs :=
  ⟨h.1, fun j hj => let ⟨es, a, b, c⟩ := h.2 j hj; ⟨es, a, crel_mono hI hw _ _ b, c⟩⟩

/-- the sources that append takes -/
def srcOf (H : List AObj) : AV → Option (Nat × Nat × (Nat → IV))   -- cells of an element, how many, which
  | .osl id none => match H[id]? with
    | some (.arr _ _ s n f) => some (s, n, f)
    | _ => none
  | .i (.sl s _ n f) => some (s, n, f)
  | _ => none

theorem srcOf_sound (hok : HOk P I w X H) {x : AV} {xv : Value} {s m : Nat} {f : Nat → IV} (hs : 0 < s) (hx : arel I w X x xv) (h : srcOf H x = some (s, m, f)) : ∃ news, Src w s xv m news ∧ flatOk I w s m f news := by
  unfold srcOf at h
  split at h
  · split at h
    · rename_i id _ fx t s' n f' hid
      cases h
      obtain ⟨rfl, _⟩ := hx
      obtain ⟨xs, h1, h2⟩ := rowrel_flat (show rowrel I w t s (X.val id none) m f from hok.obj _ _ hid)
      refine ⟨xs, ⟨h2.1, flatOk_one h2 hs, ?_⟩, h2⟩
      rcases ownsRow_val h1 with ⟨hv, hn⟩ | ⟨g, cap, hv, _⟩
      · exact ⟨none, 0, by rw [hv, hn], .inl hn⟩
      · refine ⟨_, cap, hv, .inr ⟨_, rfl, ?_⟩⟩
        rw [hv] at h1
        exact h1.cells (g := g) rfl
    · cases h
  · cases h
    obtain ⟨a, cap, hxv, hc, _, h4⟩ := hx
    simp only [List.cons.injEq, and_true] at hxv
    subst hxv
    rcases h4 with h4 | ⟨b, o, rfl, hI, h5⟩
    · subst h4
      exact ⟨[], ⟨by simp, by simp, a, cap, rfl, .inl rfl⟩, by simp, fun j hj => absurd hj (by omega)⟩
    · obtain ⟨xs, h6, h7⟩ := flat_exists h5
      exact ⟨xs, ⟨h6.1, flatOk_one h6 hs, _, cap, rfl, .inr ⟨_, rfl, fun j u hu => by rw [Addr.add_at]; exact h7 j u hu⟩⟩, h6⟩
  · cases h

end Go.AM

namespace Go.AM
open Go.RowKit

variable {C : Ctx} {env : Env} {H : List AObj} {I : Nat → Prop} {X X' : Hd} {tmps : Array Value} {w w' : World} {P : Program} {T : TT}

def immL : List IV → Option (List AV)
  | [] => some []
  | e :: r => match notAgg e, immL r with
    | true, some l => some (.i e :: l)
    | _, _ => none

/-- the cells that a value of this type fills -/
def boxCells (T : TT) (t : TypeId) (v : AV) : Option (List AV) :=
  match T.at t with
  | some ⟨.other, _, _, _⟩ => none
  | some ⟨.struct _ _, size, _, _⟩ => match v with
    | .i (.agg l) => match immL l with
      | some m => match Nat.beq m.length size with | true => some m | false => none
      | none => none
    | .agg l => match Nat.beq l.length size, l.all isOneCell with | true, true => some l | _, _ => none
    | _ => none
  | some ⟨_, size, _, _⟩ => match isOneCell v, Nat.beq size 1 with | true, true => some [v] | _, _ => none
  | none => none

def zeroCellsA (z : List Value) : List AV := z.map fun v => .i (.c v)

def tiFine (i : TI) : Bool := match i.ty, i.zero with
  | .struct _ _, _ => true
  | .other, _ => false
  | _, [_] => true
  | _, _ => false

/-- an element of so many cells -/
def elemOk (e : IV) (s : Nat) : Bool := match e with
  | .agg l => match immL l with
    | some _ => Nat.beq l.length s
    | none => false
  | _ => Nat.beq s 1

def partIVs (F : Operand → Option AV) (s : Nat) : Nat → List (Nat × Operand) → Option (List IV)
  | _, [] => some []
  | k, (i, x) :: r => match Nat.beq i k, F x with
    | true, some (.i e) => match elemOk e s, partIVs F s (k + 1) r with
      | true, some l => some (e :: l)
      | _, _ => none
    | _, _ => none

def listF : List IV → Nat → IV
  | [], _ => default
  | [v], _ => v
  | v :: _, 0 => v
  | _ :: r, j + 1 => listF r j

/-- a zero element -/
def zeroElem (i : TI) : IV := match i.ty, i.zero with
  | .struct _ _, z => .agg (z.map .c)
  | _, v :: _ => .c v
  | _, [] => default

/-- what an element becomes by a store at a place in it -/
def newElem (e : IV) (s off : Nat) (v : AV) : Option IV :=
  match v with
  | .i u => match notAgg u with
    | false => match off, elemOk u s with
      | 0, true => some u
      | _, _ => none
    | true => match Nat.beq s 1 with
      | true => match off with | 0 => some u | _ => none
      | false => match e with
        | .agg l => match Nat.blt off l.length with | true => some (.agg (l.set off u)) | false => none
        | _ => none
  | _ => none

/-- how many cells a value has -/
def widthOf : AV → Nat
  | .i (.agg l) => l.length
  | _ => 1

def updF (f : Nat → IV) (j : Nat) (e : IV) : Nat → IV := fun i => if i = j then e else f i

def undefA : AV := .tup []

def hStore (T : TT) (env : Env) (H : List AObj) (t : TypeId) (a v : AV) : Option (AV × Env × List AObj × List Bool) :=
  match a with
  | .optr id off => match H[id]? with
    | some (.box bt cells) => match boxCells T t v with
      | some l => match Nat.ble (off + l.length) cells.length with
        | true => some (undefA, env, H.set id (.box bt (cells.take off ++ (l ++ cells.drop (off + l.length)))), [])
        | false => none
      | none => none
    | _ => none
  | .oel id none s j off => match H[id]? with
    | some (.arr fx et s' n f) => match Nat.beq s s', newElem (f j) s off v, T.at t with
      | true, some e, some ti => match Nat.beq ti.size (widthOf v), Nat.blt 0 s with
        | true, true => some (undefA, env, H.set id (.arr fx et s' n (updF f j e)), [decide (j < n)])
        | _, _ => none
      | _, _, _ => none
    | _ => none
  | _ => none

def hAppend (T : TT) (env : Env) (H : List AObj) (t : TypeId) (x y : AV) : Option (AV × Env × List AObj × List Bool) :=
  match T.at t with
  | some ⟨.slice e, _, _, _⟩ => match T.at e with
    | some ei => match Nat.blt 0 ei.size, Nat.blt 0 ei.bytes, tiFine ei with
      | true, true, true => match x with
        | .i (.c (.slice none 0 0)) => match srcOf H y with
          | some (s, m, g) => match Nat.beq s ei.size with
            | true => some (.osl H.length none, env, H ++ [.arr false e s m g], [decide (m * ei.bytes ≤ 140737488355328)])
            | false => none
          | none => none
        | .osl id none => match H[id]? with
          | some (.arr false et s n f) => match srcOf H y with
            | some (s', m, g) => match Nat.beq s ei.size, Nat.beq s' ei.size, Nat.beq et e with
              | true, true, true => some (.osl id none, killE id env, (killH id H).set id (.arr false et s (n + m) (appF n f g)), [decide ((n + m) * ei.bytes ≤ 140737488355328)])
              | _, _, _ => none
            | none => none
          | _ => none
        | .i (.sl s true n f) => match srcOf H y with
          | some (s', m, g) => match Nat.beq s ei.size, Nat.beq s' ei.size with
            | true, true => some (.osl H.length none, env, H ++ [.arr false e s (n + m) (appF n f g)], [decide ((n + m) * ei.bytes ≤ 140737488355328), decide (0 < m)])
            | _, _ => none
          | none => none
        | _ => none
      | _, _, _ => none
    | none => none
  | _ => none

def hop (T : TT) (env : Env) (H : List AObj) (F : Operand → Option AV) : Op → Option (AV × Env × List AObj × List Bool)
  | .alloc t => match T.at t with
    | some i => match tiFine i with
      | true => some (.optr H.length 0, env, H ++ [.box t (zeroCellsA i.zero)], [])
      | false => none
    | none => none
  | .box t x => match F x with
    | some v => match boxCells T t v with
      | some l => some (.optr H.length 0, env, H ++ [.box t l], [])
      | none => none
    | none => none
  | .buildSlice t n parts => match T.at t with
    | some ⟨.slice e, _, _, _⟩ => match T.at e with
      | some ei => match Nat.blt 0 ei.size, Nat.ble (n * ei.size) 16777216, partIVs F ei.size 0 parts.toList with
        | true, true, some l => match Nat.beq l.length n with
          | true => some (.osl H.length none, env, H ++ [.arr false e ei.size n (listF l)], [])
          | false => none
        | _, _, _ => none
      | none => none
    | _ => none
  | .makeSlice t l c => match T.at t, F l, F c with
    | some ⟨.slice e, _, _, _⟩, some (.i (.c (.int _ a))), some (.i (.c (.int _ b))) => match T.at e with
      | some ei => match Nat.blt 0 ei.size, tiFine ei, (match ei.ty with | .slice _ => true | _ => false) with
        | true, true, false => some (.osl H.length none, env, H ++ [.arr false e ei.size a.toNat (fun _ => zeroElem ei)], [decide (0 ≤ a ∧ a = b ∧ (ei.bytes : Int) * a ≤ 140737488355328 ∧ a ≤ 140737488355328)])
        | _, _, _ => none
      | none => none
    | _, _, _ => none
  | .store t a x => match F a, F x with
    | some a, some v => hStore T env H t a v
    | _, _ => none
  | .makeMap t none => match T.at t with
    | some ⟨.map kt et, _, _, _⟩ => match T.at kt, T.at et with
      | some ⟨.int k, _, _, _⟩, some ei => match tiFine ei with
        | true => some (.omap H.length, env, H ++ [.map k et 0 (fun _ => false) (fun _ => zeroElem ei)], [])
        | false => none
      | _, _ => none
    | _ => none
  | .mapUpdate t m k x => match T.at t, F m, F k, F x with
    | some ⟨.map kt _, _, _, _⟩, some (.omap id), some (.i (.c (.int k' y))), some (.i e) => match T.at kt, H[id]? with
      | some ⟨.int k2, _, _, _⟩, some (.map k3 et card dom val) => match decide (k' = k2 ∧ k2 = k3) with
        | true => some (undefA, env, H.set id (.map k3 et (card + cond (dom y) 0 1) (fun z => z == y || dom z) (fun z => if z = y then e else val z)), [])
        | false => none
      | _, _ => none
    | _, _, _, _ => none
  | .call ⟨.builtin .append, args, ts⟩ => match args.toList, ts.toList with
    | [x, y], [t, t'] => match Nat.beq t t', F x, F y with
      | true, some a, some b => hAppend T env H t a b
      | _, _, _ => none
    | _, _ => none
  | _ => none

end Go.AM

namespace Go.AM
open Go.RowKit

variable {C : Ctx} {env env' : Env} {H H' : List AObj} {I : Nat → Prop} {X X' : Hd} {tmps : Array Value} {w w' : World} {P : Program} {T : TT}

/-- what an operation leaves -/
def HopR (C : Ctx) (I : Nat → Prop) (tmps : Array Value) (v : AV) (env' : Env) (H' : List AObj) (res : Result Next) : Prop :=
  ∃ z w' X', (res = .ok (.value z) w' ∨ (res = .ok .skip w' ∧ z = undef)) ∧ arel I w' X' v z ∧ refs (below H'.length) v = true ∧ Rel C env' H' I X' tmps w'

theorem zv_cells {i : TI} (h : tiFine i = true) (h1 : ∀ v ∈ i.zero, v.oneCell' = true) : i.zv.cells = i.zero.toArray := by
  obtain ⟨ty, s, b, z⟩ := i
  unfold tiFine at h
  unfold TI.zv
  cases ty <;> simp only at h ⊢ <;> first | rfl | (cases h; done) | skip
  all_goals
    cases z with
    | nil => simp at h
    | cons v z =>
      cases z with
      | nil => simpa using cells_of_oneCell (h1 v (by simp))
      | cons _ _ => simp at h

theorem liveBox {t : TypeId} {cells : List AV} : ∀ row, liveObj (.box t cells) row → row = none := fun _ h => h
theorem liveArr {fx : Bool} {t : TypeId} {s n : Nat} {f : Nat → IV} : ∀ row, liveObj (.arr fx t s n f) row → row = none := fun _ h => h

/-- a new box -/
theorem push_box (h : Rel C env H I X tmps w) (t : TypeId) (cells : List AV) (cs : List Value) (hc : arelAll I w X cells cs) (h1 : ∀ v ∈ cs, v.oneCell' = true) (hr : refsAll (below H.length) cells = true) :
    HopR C I tmps (.optr H.length 0) env (H ++ [.box t cells]) (.ok (.value (.pointer (some ⟨w.heap.size, 0, none⟩))) (w.alloc (.cells cs.toArray t))) := by
  have hs := Same.alloc w (.cells cs.toArray t)
  obtain ⟨X', hv, hX, hrel⟩ := h.push hs (.pointer (some ⟨w.heap.size, 0, none⟩)) (.box t cells) liveBox (fun X' hv hX => by
    refine ⟨w.heap.size, cs, hv, heap_alloc_new w _, ?_, h1, refsAll_mono (below_mono (by omega)) _ hr⟩
    exact arelAll_congr (p := below H.length) (fun id row hb => hX id row (by simpa [below, Nat.blt_eq] using hb)) _ _ hr
      (arelAll_mono (fun _ h => h) (fun b hb => hs.2.2.2.2 b (h.ilt b hb)) _ _ hc)) (fun b hb => by simp at hb; omega)
  exact ⟨_, _, X', .inl rfl, ⟨w.heap.size, hv, rfl⟩, by simp [refs, below, Nat.blt_eq], hrel⟩

/-- a new slice -/
theorem push_arr (h : Rel C env H I X tmps w) (hs : Same w w') {t : TypeId} {s n : Nat} {f : Nat → IV} {v : Value} {xs : List Value} (hown : w'.ownsRow 0 t s v n xs) (hb : ∀ b, v.ownBlock = some b → w.heap.size ≤ b)
    (hf : flatOk I w s n f xs) : HopR C I tmps (.osl H.length none) env (H ++ [.arr false t s n f]) (.ok (.value v) w') := by
  have hsl : ∃ a n c, v = .slice a n c := by rcases ownsRow_val hown with ⟨h, _⟩ | ⟨g, cap, h, _⟩ <;> exact ⟨_, _, _, h⟩
  obtain ⟨X', hv, hX, hrel⟩ := h.push hs v (.arr false t s n f) liveArr (fun X' hv hX => by
    show rowrel _ _ _ _ _ _ _
    rw [hv]
    exact rowrel_of_flat hown (flatOk_mono (fun _ h => h) (fun b hb => hs.2.2.2.2 b (h.ilt b hb)) hf)) (fun b hb' => by
      obtain ⟨a, n', c, rfl⟩ := hsl
      refine hb b ?_
      cases a <;> simpa [Value.ownBlock] using hb')
  exact ⟨_, _, X', .inl rfl, ⟨hv.symm, hsl⟩, by simp [refs, below, Nat.blt_eq], hrel⟩

theorem immL_sound {n : Nat} : ∀ {l : List IV} {m : List AV} {cs : List Value}, immL l = some m → crelAll I w l cs → arelAll I w X m cs ∧ refsAll (below n) m = true ∧ m.length = l.length
  | [], m, cs, h, hc => by simp only [immL, Option.some.injEq] at h; subst h; exact ⟨hc, rfl, rfl⟩
  | e :: l, m, cs, h, hc => by
    simp only [immL] at h
    split at h
    · rename_i r hn hr
      cases h
      obtain ⟨v, c, rfl, h1, h2⟩ := hc
      obtain ⟨h3, h4, h5⟩ := immL_sound hr h2
      exact ⟨⟨v, c, rfl, irel_of_crel hn h1, h3⟩, refsAll_cons.2 ⟨rfl, h4⟩, by simp [h5]⟩
    · cases h

theorem boxCells_sound (hT : TTok P T) {t : TypeId} {v : AV} {x : Value} {l : List AV} {n : Nat} (hx : arel I w X v x) (hr : refs (below n) v = true) (h : boxCells T t v = some l) :
    ∃ cs : List Value, x.cells = cs.toArray ∧ arelAll I w X l cs ∧ (∀ v ∈ cs, v.oneCell' = true) ∧ refsAll (below n) l = true ∧ (∀ w', (sizeOf t).run P w' = .ok cs.length w') := by
  unfold boxCells at h
  split at h
  · cases h
  · rename_i fs eqk size by' z hty
    have hsz : ∀ w', (sizeOf t).run P w' = .ok size w' := fun w' => sizeOf_run hT hty w'
    split at h
    · split at h
      · rename_i m hm
        split at h
        · rename_i hl
          cases h
          obtain ⟨cs, rfl, hc⟩ := hx
          obtain ⟨h1, h2, h3⟩ := immL_sound (X := X) (n := n) hm hc
          have hlen := arelAll_length h1
          have hl' := Nat.eq_of_beq_eq_true hl
          exact ⟨cs, rfl, h1, crelAll_one_all _ _ hc, h2, fun w' => by rw [hsz, hlen, hl']⟩
        · cases h
      · cases h
    · split at h
      · rename_i l' hl hone
        cases h
        obtain ⟨cs, rfl, hc, h1⟩ := hx
        have hlen := arelAll_length hc
        have hl' := Nat.eq_of_beq_eq_true hl
        exact ⟨cs, rfl, hc, h1, hr, fun w' => by rw [hsz, hlen, hl']⟩
      · cases h
    · cases h
  · rename_i ty size by' z hn1 hn2 hty
    have hsz : ∀ w', (sizeOf t).run P w' = .ok size w' := fun w' => sizeOf_run hT hty w'
    split at h
    · rename_i hone hs
      cases h
      have h1 := isOneCell_sound hone hx
      have hs' := Nat.eq_of_beq_eq_true hs
      exact ⟨[x], cells_of_oneCell h1, ⟨x, [], rfl, hx, rfl⟩, by simpa using h1, refsAll_cons.2 ⟨hr, rfl⟩, fun w' => by rw [hsz, hs']; rfl⟩
    · cases h
  · cases h

theorem hop_alloc (hT : TTok C.P T) (h : Rel C env H I X tmps w) {t : TypeId} {i : TI} (hty : T.at t = some i) (hf : tiFine i = true) (ρ : Operand → Value) (o : Oper) (ho : o.op = .alloc t) :
    HopR C I tmps (.optr H.length 0) env (H ++ [.box t (zeroCellsA i.zero)]) ((execOp ρ o).run C.P w) := by
  obtain ⟨_, info, hi, hsz, _, hz, hzl, hz1⟩ := hT.ok t _ hty
  obtain ⟨z1, z2⟩ := zeros_rel (I := I) (w := w) (X := X) i.zero hz1 H.length
  have hrun : (execOp ρ o).run C.P w = .ok (.value (.pointer (some ⟨w.heap.size, 0, none⟩))) (w.alloc (.cells i.zero.toArray t)) := by
    have hzv : ∀ w, (zeroValue t).run C.P w = .ok i.zv w := by intro w; simp [zeroValue, typeInfo, hi, hz]
    simp [execOp, ho, Instr.alloc, hzv, newVar, newRow, zv_cells hf hz1]
  rw [hrun]
  exact push_box h t _ _ z1 hz1 z2

theorem hop_box (hT : TTok C.P T) (h : Rel C env H I X tmps w) {t : TypeId} {x : Operand} {v : AV} {l : List AV} (ρ : Operand → Value) (hx : arel I w X v (ρ x)) (hr : refs (below H.length) v = true)
    (hl : boxCells T t v = some l) (o : Oper) (ho : o.op = .box t x) :
    HopR C I tmps (.optr H.length 0) env (H ++ [.box t l]) ((execOp ρ o).run C.P w) := by
  obtain ⟨cs, h1, h2, h3, h4, _⟩ := boxCells_sound hT hx hr hl
  have hrun : (execOp ρ o).run C.P w = .ok (.value (.pointer (some ⟨w.heap.size, 0, none⟩))) (w.alloc (.cells cs.toArray t)) := by
    simp [execOp, ho, Instr.box, newVar, newRow, h1]
  rw [hrun]
  exact push_box h t _ _ h2 h3 h4

end Go.AM

namespace Go.AM
open Go.RowKit

variable {C : Ctx} {env env' : Env} {H H' : List AObj} {I : Nat → Prop} {X X' : Hd} {tmps : Array Value} {w w' : World} {P : Program} {T : TT}

theorem elemOk_sound {e : IV} {s : Nat} {x : Value} (h : elemOk e s = true) (hx : irel I w e x) : ∃ cs : List Value, x.cells = cs.toArray ∧ cs.length = s ∧ crel I w e cs := by
  unfold elemOk at h
  split at h
  · split at h
    · obtain ⟨cs, rfl, hc⟩ := hx
      have := crelAll_ints hc
      exact ⟨cs, rfl, by rw [this]; exact Nat.eq_of_beq_eq_true h, hc⟩
    · cases h
  · rename_i hn
    have hn' : notAgg e = true := by cases e <;> first | rfl | (exact (hn _ rfl).elim)
    have hc := crel_of_irel hn' hx
    obtain ⟨v, hv, h1⟩ := crel_one hn' hc
    simp only [List.cons.injEq, and_true] at hv
    subst hv
    exact ⟨[x], cells_of_oneCell h1, (Nat.eq_of_beq_eq_true h).symm, hc⟩

theorem listF_get : ∀ {l : List IV} {j : Nat} {e : IV}, l[j]? = some e → listF l j = e
  | [], j, e, h => by simp at h
  | [v], 0, e, h => by simp at h; subst h; rfl
  | [v], j + 1, e, h => by simp at h
  | v :: u :: r, 0, e, h => by simp at h; subst h; rfl
  | v :: u :: r, j + 1, e, h => by
    show listF (u :: r) j = e
    exact listF_get (by simpa using h)

/-- the parts of a slice literal, in order -/
theorem partIVs_sound {len : Nat} {F : Operand → Option AV} {ρ : Operand → Value} {s : Nat} : ∀ (parts : List (Nat × Operand)) (k : Nat) (l : List IV), FOk I w X len F ρ (parts.map (·.2)) → partIVs F s k parts = some l →
    ∃ css : List (List Value), css.length = l.length ∧ parts.length = l.length ∧
      (∀ (j : Nat) p, parts[j]? = some p → p.1 = k + j ∧ ∃ cs, css[j]? = some cs ∧ (ρ p.2).cells = cs.toArray) ∧
      ∀ (j : Nat) e, l[j]? = some e → ∃ cs, css[j]? = some cs ∧ cs.length = s ∧ crel I w e cs
  | [], k, l, _, h => by
    simp only [partIVs, Option.some.injEq] at h; subst h
    exact ⟨[], rfl, rfl, by simp, by simp⟩
  | (i, x) :: r, k, l, hF, h => by
    simp only [partIVs] at h
    split at h
    · rename_i e hik hx
      split at h
      · rename_i l' he hr
        cases h
        obtain ⟨hx1, _⟩ := hF x (by simp) _ hx
        obtain ⟨cs, h1, h2, h3⟩ := elemOk_sound he hx1
        obtain ⟨css, g0, g1, g2, g3⟩ := partIVs_sound r (k + 1) l' (hF.mono (by simp +contextual)) hr
        refine ⟨cs :: css, by simp [g0], by simp [g1], fun j p hp => ?_, fun j e' hj => ?_⟩
        · cases j with
          | zero =>
            simp at hp; subst hp
            exact ⟨by simpa using Nat.eq_of_beq_eq_true hik, cs, rfl, h1⟩
          | succ j =>
            obtain ⟨a, c, b1, b2⟩ := g2 j p (by simpa using hp)
            exact ⟨by omega, c, by simpa using b1, b2⟩
        · cases j with
          | zero => simp at hj; subst hj; exact ⟨cs, rfl, h2, h3⟩
          | succ j => obtain ⟨c, a, b⟩ := g3 j e' (by simpa using hj); exact ⟨c, by simpa using a, b⟩
      · cases h
    · cases h

theorem foldl_cells (o : Nat) : ∀ (vs : List Value) (cells : List Value) (k : Nat), o + k + vs.length ≤ cells.length →
    (vs.zipIdx k).foldl (fun cs (c, j) => cs.setIfInBounds (o + j) c) cells.toArray = (cells.take (o + k) ++ vs ++ cells.drop (o + k + vs.length)).toArray
  | [], cells, k, _ => by simp
  | v :: vs, cells, k, h => by
    simp only [List.zipIdx_cons, List.foldl_cons]
    rw [show (cells.toArray.setIfInBounds (o + k) v) = (cells.set (o + k) v).toArray by simp]
    rw [foldl_cells o vs (cells.set (o + k) v) (k + 1) (by simp at h ⊢; omega)]
    congr 1
    have hlt : o + k < cells.length := by simp at h; omega
    rw [show o + (k + 1) = o + k + 1 by omega, List.take_succ_eq_append_getElem (by simp; exact hlt)]
    simp only [List.getElem_set_self, List.length_cons]
    rw [List.take_set_of_le (Nat.le_refl _), List.drop_set_of_lt (by omega)]
    simp [Nat.add_assoc, Nat.add_comm]
    omega

theorem fill_list (s : Nat) : ∀ (vss : List (List Value)) (k : Nat) (cells : List Value), (k + vss.length) * s ≤ cells.length → (∀ vs ∈ vss, vs.length = s) →
    ∀ (parts : List (Nat × Value)), parts.length = vss.length → (∀ (j : Nat) p, parts[j]? = some p → p.1 = k + j ∧ ∃ cs, vss[j]? = some cs ∧ p.2.cells = cs.toArray) →
    Instr.fill (fun i => some (i * s, s)) cells.toArray parts = some (cells.take (k * s) ++ vss.flatten ++ cells.drop ((k + vss.length) * s)).toArray
  | [], k, cells, _, _, parts, hp, _ => by
    have : parts = [] := List.eq_nil_of_length_eq_zero (by simpa using hp)
    subst this
    simp [Instr.fill]
  | vs :: vss, k, cells, hl, hs, parts, hp, hall => by
    cases parts with
    | nil => simp at hp
    | cons p parts =>
      obtain ⟨hp1, cs, hcs, hp2⟩ := hall 0 p rfl
      simp at hcs; subst hcs
      obtain ⟨i, x⟩ := p
      simp only [Nat.add_zero] at hp1
      subst hp1
      have hvs := hs vs (by simp)
      simp only [Instr.fill]
      have hks : (i + 1) * s ≤ cells.length := Nat.le_trans (Nat.mul_le_mul_right _ (by simp)) hl
      rw [hp2, if_neg (by simp [hvs]; rw [Nat.add_mul] at hks; omega)]
      have h1 := foldl_cells (i * s) vs cells 0 (by rw [hvs]; rw [Nat.add_mul] at hks; omega)
      have h2 : vs.toArray.zipIdx.foldl (fun cs (c, j) => cs.setIfInBounds (i * s + j) c) cells.toArray = (cells.take (i * s) ++ vs ++ cells.drop (i * s + vs.length)).toArray := by
        have := h1
        simp only [Nat.add_zero] at this
        rw [← this]
        simp
      rw [h2]
      rw [fill_list s vss (i + 1) _ (by
        simp only [List.length_append, List.length_take, List.length_drop, hvs]
        rw [Nat.add_mul] at hks
        rw [show i + 1 + vss.length = i + (vs :: vss).length by simp; omega]
        omega) (fun v hv => hs v (by simp [hv])) parts (by simpa using hp) (fun j p hj => by
          obtain ⟨a, c, b1, b2⟩ := hall (j + 1) p (by simpa using hj)
          exact ⟨by omega, c, by simpa using b1, b2⟩)]
      congr 2
      have hlen : (cells.take (i * s) ++ vs).length = (i + 1) * s := by
        rw [Nat.add_mul] at hks ⊢
        simp [hvs]; omega
      rw [List.take_append_of_le_length (by omega), ← hlen, List.take_length]
      simp only [List.flatten_cons, List.append_assoc]
      congr 2
      have hd : (cells.take (i * s) ++ vs ++ cells.drop (i * s + vs.length)).drop ((i + 1 + vss.length) * s) = cells.drop ((i + (vs :: vss).length) * s) := by
        have h3 : (i + 1 + vss.length) * s = (cells.take (i * s) ++ vs).length + vss.length * s := by rw [hlen]; simp only [Nat.add_mul]
        rw [h3, List.drop_length_add_append, List.drop_drop]
        congr 1
        simp only [List.length_cons, Nat.add_mul, Nat.one_mul, hvs]
        omega
      simpa [List.append_assoc] using hd

end Go.AM

namespace Go.AM
open Go.RowKit

variable {C : Ctx} {env env' : Env} {H H' : List AObj} {I : Nat → Prop} {X X' : Hd} {tmps : Array Value} {w w' : World} {P : Program} {T : TT}

theorem flat_of_css {s : Nat} {l : List IV} {css : List (List Value)} (h0 : css.length = l.length) (h : ∀ (j : Nat) e, l[j]? = some e → ∃ cs, css[j]? = some cs ∧ cs.length = s ∧ crel I w e cs) :
    flatOk I w s l.length (listF l) css.flatten := by
  have hs : ∀ cs ∈ css, cs.length = s := by
    intro cs hcs
    obtain ⟨j, hj⟩ := List.getElem?_of_mem hcs
    have hlt : j < l.length := by rw [← h0]; exact (List.getElem?_eq_some_iff.1 hj).1
    obtain ⟨c, a, b, _⟩ := h j l[j] (by simp [hlt])
    rw [hj] at a; cases a; exact b
  have key : ∀ (css : List (List Value)), (∀ cs ∈ css, cs.length = s) → css.flatten.length = css.length * s ∧ ∀ (j k : Nat) cs v, css[j]? = some cs → cs[k]? = some v → css.flatten[j * s + k]? = some v := by
    intro css
    induction css with
    | nil => intro _; exact ⟨by simp, by simp⟩
    | cons c css ih =>
      intro hs
      obtain ⟨h1, h2⟩ := ih (fun cs hcs => hs cs (by simp [hcs]))
      have hc := hs c (by simp)
      refine ⟨by simp only [List.flatten_cons, List.length_append, h1, hc, List.length_cons, Nat.add_mul, Nat.one_mul]; omega, fun j k cs v hj hk => ?_⟩
      cases j with
      | zero =>
        simp at hj; subst hj
        simp only [List.flatten_cons, Nat.zero_mul, Nat.zero_add]
        rw [List.getElem?_append_left (List.getElem?_eq_some_iff.1 hk).1]; exact hk
      | succ j =>
        have := h2 j k cs v (by simpa using hj) hk
        simp only [List.flatten_cons]
        rw [show (j + 1) * s + k = c.length + (j * s + k) by rw [hc, Nat.add_mul]; omega, List.getElem?_append_right (by omega)]
        simpa using this
  obtain ⟨h1, h2⟩ := key css hs
  refine ⟨by rw [h1, h0], fun j hj => ?_⟩
  obtain ⟨cs, a, b, c⟩ := h j l[j] (by simp [hj])
  exact ⟨cs, b, by rw [listF_get (show l[j]? = some l[j] by simp [hj])]; exact c, fun k v hk => h2 j k cs v a hk⟩

theorem hop_buildSlice (hT : TTok C.P T) (h : Rel C env H I X tmps w) {t e : TypeId} {sz by' : Nat} {z : List Value} {ei : TI} {n : Nat} {parts : Array (Nat × Operand)} {F : Operand → Option AV} {l : List IV}
    (ht : T.at t = some ⟨.slice e, sz, by', z⟩) (he : T.at e = some ei) (hs : 0 < ei.size) (hn : n * ei.size ≤ 16777216) (ρ : Operand → Value) (hF : FOk I w X H.length F ρ (parts.toList.map (·.2)))
    (hp : partIVs F ei.size 0 parts.toList = some l) (hl : l.length = n) (o : Oper) (ho : o.op = .buildSlice t n parts) :
    HopR C I tmps (.osl H.length none) env (H ++ [.arr false e ei.size n (listF l)]) ((execOp ρ o).run C.P w) := by
  have hu : C.P.underlying t = some (.slice e) := (hT.ok t _ ht).1
  obtain ⟨_, info, hi, hsz, _, hz, hzl, hz1⟩ := hT.ok e _ he
  obtain ⟨css, g0, g1, g2, g3⟩ := partIVs_sound parts.toList 0 l hF hp
  have hflat := flat_of_css g0 g3
  rw [hl] at hflat g0 g1
  have hcl : ∀ cs ∈ css, cs.length = ei.size := by
    intro cs hcs
    obtain ⟨j, hj⟩ := List.getElem?_of_mem hcs
    have hlt : j < l.length := by rw [hl, ← g0]; exact (List.getElem?_eq_some_iff.1 hj).1
    obtain ⟨c, a, b, _⟩ := g3 j l[j] (by simp [hlt])
    rw [hj] at a; cases a; exact b
  have hfill : ∀ zs : List Value, zs.length = n * ei.size → Instr.fill (fun i => some (i * ei.size, ei.size)) zs.toArray ((parts.map fun p => (p.1, ρ p.2)).toList) = some css.flatten.toArray := by
    intro zs hzs
    have := fill_list ei.size css 0 zs (by rw [g0, hzs]; simp) hcl ((parts.map fun p => (p.1, ρ p.2)).toList) (by simp only [Array.toList_map, List.length_map]; rw [g1, g0]) (fun j p hj => by
      rw [Array.toList_map, List.getElem?_map] at hj
      cases hq : parts.toList[j]? with
      | none => rw [hq] at hj; simp at hj
      | some q =>
        rw [hq] at hj
        simp only [Option.map_some, Option.some.injEq] at hj
        subst hj
        exact g2 j q hq)
    rw [this, g0]
    simp [← hzs]
  have hown : (w.alloc (.cells css.flatten.toArray e)).ownsRow 0 e ei.size (.slice (some ⟨w.heap.size, 0, none⟩) n n) n css.flatten := by
    refine ⟨hflat.1, .inr ⟨w.heap.size, n, css.flatten.toArray, rfl, Nat.zero_le _, heap_alloc_new w _, Nat.le_refl _, ?_, ?_, ?_⟩⟩
    · have := Nat.le_trans (Nat.le_mul_of_pos_right n hs) hn
      simp only [maxLen]; omega
    · simpa using hflat.1
    · simp only [List.toList_toArray]; rw [← hflat.1]; exact List.take_length
  have hrun : (execOp ρ o).run C.P w = .ok (.value (.slice (some ⟨w.heap.size, 0, none⟩) n n)) (w.alloc (.cells css.flatten.toArray e)) := by
    have hzv : ∀ w, (zeroValue e).run C.P w = .ok ei.zv w := by intro w; simp [zeroValue, typeInfo, hi, hz]
    have hsr : ∀ w, (sizeOf e).run C.P w = .ok ei.size w := fun w => sizeOf_run hT he w
    have hnot : ¬ (n * ei.size > 16777216) := by omega
    simp only [execOp, ho, Instr.buildSlice, Sem.run_bind, run_underlying hu, Result.andThen_ok, hsr]
    simp only [hnot, if_false, Sem.run_pure, Result.andThen_ok, Sem.run_ite, Sem.run_bind, hzv]
    have key : ∀ zs : Array Value, (match Instr.fill (fun i => some (i * ei.size, ei.size)) ((Array.range (n * ei.size)).map (zs[· % zs.size]!)) ((parts.map fun (p : Nat × Operand) => (p.1, ρ p.2)).toList) with
        | some cells => (do pure (.slice (some (← newRow e cells)) n n) : Sem Value)
        | x => stuck "buildSlice: a part of the wrong size").run C.P w = .ok (.slice (some ⟨w.heap.size, 0, none⟩) n n) (w.alloc (.cells css.flatten.toArray e)) := by
      intro zs
      have hf := hfill (((Array.range (n * ei.size)).map (zs[· % zs.size]!)).toList) (by simp)
      simp only [Array.toArray_toList] at hf
      rw [hf]
      simp [newRow]
    have k1 := key #[]
    have k2 := key ei.zv.cells
    split
    · exact congrArg (fun r : Result Value => r.andThen fun v w' => Result.ok (Next.value v) w') k1
    · exact congrArg (fun r : Result Value => r.andThen fun v w' => Result.ok (Next.value v) w') k2
  rw [hrun]
  exact push_arr h (Same.alloc w _) hown (fun b hb => by simp [Value.ownBlock] at hb; omega) hflat

theorem hop_makeSlice (hT : TTok C.P T) (h : Rel C env H I X tmps w) {t e : TypeId} {sz by' : Nat} {z : List Value} {ei : TI} {kl kc : IntKind} {a : Int} {l c : Operand}
    (ht : T.at t = some ⟨.slice e, sz, by', z⟩) (he : T.at e = some ei) (hs : 0 < ei.size) (hf : tiFine ei = true) (h0 : 0 ≤ a) (hb : (ei.bytes : Int) * a ≤ 140737488355328) (h1 : a ≤ 140737488355328) (ρ : Operand → Value)
    (hl : ρ l = .int kl a) (hc : ρ c = .int kc a) (o : Oper) (ho : o.op = .makeSlice t l c) :
    HopR C I tmps (.osl H.length none) env (H ++ [.arr false e ei.size a.toNat (fun _ => zeroElem ei)]) ((execOp ρ o).run C.P w) := by
  have hu : C.P.underlying t = some (.slice e) := (hT.ok t _ ht).1
  obtain ⟨_, info, hi, hsz, hby, hz, hzl, hz1⟩ := hT.ok e _ he
  obtain ⟨n, rfl⟩ := Int.eq_ofNat_of_zero_le h0
  have hb' : info.bytes * n ≤ 281474976710656 := by
    have : ((info.bytes * n : Nat) : Int) ≤ 140737488355328 := by rw [hby]; simpa using hb
    omega
  obtain ⟨w', hr, hown, hg⟩ := run_make_full (P := C.P) w 0 t e info ei.zv ei.size hu hi hz hsz kl kc n hb' (by simp only [maxLen]; omega) (Nat.zero_le _)
  have hrun : (execOp ρ o).run C.P w = .ok (.value (.slice (some ⟨w.heap.size, 0, none⟩) n n)) w' := by
    simp only [execOp, ho, hl, hc, Sem.run_bind]
    have : (Instr.makeSlice t (.int kl (n : Int)) (.int kc (n : Int))).run C.P w = _ := hr
    rw [this]; rfl
  rw [hrun]
  simp only [Int.toNat_natCast]
  refine push_arr h ⟨hg.os, hg.tape, hg.output, hg.size, fun b hb => hg.block b hb (by simp)⟩ hown (fun b hb => by simp [Value.ownBlock] at hb; omega) ?_
  have hzc := zv_cells hf hz1
  refine ⟨by simp [madeCells], fun j hj => ⟨ei.zero, hzl, ?_, fun k v hk => ?_⟩⟩
  · obtain ⟨ty, s, b, zz⟩ := ei
    unfold tiFine at hf
    unfold zeroElem
    have hall : ∀ (l : List Value), (∀ v ∈ l, v.oneCell' = true) → crelAll I w (l.map .c) l := by
      intro l
      induction l with
      | nil => intro _; rfl
      | cons v l ih => intro h; exact ⟨v, l, rfl, ⟨rfl, h v (by simp)⟩, ih (fun u hu => h u (by simp [hu]))⟩
    cases ty <;> simp only at hf ⊢ <;> first | (cases hf; done) | exact hall _ hz1 | skip
    all_goals
      cases zz with
      | nil => simp at hf
      | cons v zz =>
        cases zz with
        | nil => exact ⟨rfl, hz1 v (by simp)⟩
        | cons _ _ => simp at hf
  · have hk' : k < ei.size := by rw [← hzl]; exact (List.getElem?_eq_some_iff.1 hk).1
    have hlt : j * ei.size + k < n * ei.size := by
      have := Nat.mul_le_mul_right ei.size (show j + 1 ≤ n by omega)
      rw [Nat.add_mul] at this; omega
    have hmod : (j * ei.size + k) % ei.size = k := by rw [Nat.mul_comm, Nat.mul_add_mod]; exact Nat.mod_eq_of_lt hk'
    simp only [madeCells, hzc, Array.toList_map, List.getElem?_map, Array.toList_range]
    rw [List.getElem?_range hlt]
    simp only [Option.map_some, List.size_toArray, hzl, hmod, Option.some.injEq]
    have : ei.zero.toArray[k]? = some v := by simpa using hk
    rw [getElem!_def, this]

end Go.AM

namespace Go.AM
open Go.RowKit

variable {C : Ctx} {env env' : Env} {H H' : List AObj} {I : Nat → Prop} {X X' : Hd} {tmps : Array Value} {w w' : World} {P : Program} {T : TT}

theorem arelAll_append {l m : List AV} {cs ds : List Value} (h1 : arelAll I w X l cs) (h2 : arelAll I w X m ds) : arelAll I w X (l ++ m) (cs ++ ds) := by
  induction l generalizing cs with
  | nil => simp only [arelAll] at h1; subst h1; simpa using h2
  | cons e l ih => obtain ⟨v, r, rfl, a, b⟩ := h1; exact ⟨v, r ++ ds, by simp, a, ih b⟩

theorem refsAll_append {p : Nat → Option Nat → Bool} {l m : List AV} (h1 : refsAll p l = true) (h2 : refsAll p m = true) : refsAll p (l ++ m) = true := by
  induction l with
  | nil => simpa using h2
  | cons e l ih => rw [refsAll_cons] at h1; rw [List.cons_append, refsAll_cons]; exact ⟨h1.1, ih h1.2⟩

/-- cells stored into a block -/
theorem run_storeAt (P : Program) (w : World) (t : TypeId) (b o : Nat) (bt : TypeId) (cur : Array Value) (x : Value) (cs : List Value) (hx : x.cells = cs.toArray) (hsz : (sizeOf t).run P w = .ok cs.length w)
    (hb : w.heap[b]? = some (.cells cur bt (0, 0))) (hfit : o + cs.length ≤ cur.size) (h1 : ∀ v ∈ cs, v.oneCell' = true) :
    (Instr.storeAt t (.pointer (some ⟨b, o, none⟩)) x).run P w = .ok () (w.setRow b (cur.toList.take o ++ cs ++ cur.toList.drop (o + cs.length)).toArray) := by
  have h := run_storeCells_at P b o bt cs 0 cur w hb (by simpa using hfit) h1
  simp only [Nat.add_zero] at h
  simp [Instr.storeAt, Instr.sureAddr, storeVar, hx, hsz, h]

theorem setRow_facts (w : World) (g : Nat) (cs : Array Value) : (w.setRow g cs).os = w.os ∧ (w.setRow g cs).tape = w.tape ∧ (w.setRow g cs).output = w.output ∧ (w.setRow g cs).heap.size = w.heap.size ∧ ∀ k, k ≠ g → (w.setRow g cs).heap[k]? = w.heap[k]? :=
  ⟨rfl, rfl, rfl, size_setRow w g cs, fun k hk => setRow_other w g k cs hk⟩

theorem hStore_box (hT : TTok C.P T) (h : Rel C env H I X tmps w) {t : TypeId} {id off : Nat} {bt : TypeId} {cells l : List AV} {v : AV} (hid : H[id]? = some (.box bt cells)) (hl : boxCells T t v = some l) (hfit : off + l.length ≤ cells.length)
    (ρ : Operand → Value) {a x : Operand} (ha : arel I w X (.optr id off) (ρ a)) (hx : arel I w X v (ρ x)) (hxr : refs (below H.length) v = true) (o : Oper) (ho : o.op = .store t a x) :
    HopR C I tmps undefA env (H.set id (.box bt (cells.take off ++ (l ++ cells.drop (off + l.length))))) ((execOp ρ o).run C.P w) := by
  obtain ⟨cs, h1, h2, h3, h4, h5⟩ := boxCells_sound hT hx hxr hl
  obtain ⟨b, hb, hav⟩ := ha
  obtain ⟨b', ds, g1, g2, g3, g4, g5⟩ := h.hok.obj _ _ hid
  rw [hb] at g1; cases g1
  have hlen := arelAll_length h2
  have hdl := arelAll_length g3
  have hst := run_storeAt C.P w t b off bt ds.toArray (ρ x) cs h1 (h5 w) g2 (by simp; omega) h3
  have hrun : (execOp ρ o).run C.P w = .ok .skip (w.setRow b (ds.take off ++ cs ++ ds.drop (off + cs.length)).toArray) := by
    simp only [execOp, ho, hav, Sem.run_bind]
    rw [hst]; simp
  rw [hrun]
  obtain ⟨f1, f2, f3, f4, f5⟩ := setRow_facts w b (ds.take off ++ cs ++ ds.drop (off + cs.length)).toArray
  have hIw : ∀ k, I k → (w.setRow b (ds.take off ++ cs ++ ds.drop (off + cs.length)).toArray).heap[k]? = w.heap[k]? := fun k hk => f5 k (fun e => h.hok.off id none k (by unfold live; rw [hid]; rfl) (by unfold Hd.blk; rw [hb, e]) hk)
  refine ⟨undef, _, X, .inr ⟨rfl, rfl⟩, ⟨[], rfl, rfl⟩, rfl, h.modify (row := none) (b := b) hid rfl (by unfold Hd.blk; rw [hb]) f1 f2 f3 f4 f5 (fun _ => Iff.rfl) (fun _ => rfl) ?_⟩
  refine ⟨b, ds.take off ++ cs ++ ds.drop (off + cs.length), hb, setRow_heap w b _ _ bt _ g2, ?_, ?_, ?_⟩
  · have gen : ∀ L, L = ds.take off ++ (cs ++ ds.drop (off + l.length)) → arelAll I (w.setRow b (ds.take off ++ cs ++ ds.drop (off + cs.length)).toArray) X (cells.take off ++ (l ++ cells.drop (off + l.length))) L := fun L hL => by
      rw [hL]
      exact arelAll_append (arelAll_take (arelAll_mono (fun _ h => h) hIw _ _ g3) off) (arelAll_append (arelAll_mono (fun _ h => h) hIw _ _ h2) (arelAll_drop (arelAll_mono (fun _ h => h) hIw _ _ g3) _))
    exact gen _ (by rw [List.append_assoc, hlen])
  · intro u hu
    simp only [List.mem_append] at hu
    rcases hu with (hu | hu) | hu
    · exact g4 u (List.mem_of_mem_take hu)
    · exact h3 u hu
    · exact g4 u (List.mem_of_mem_drop hu)
  · exact refsAll_append (refsAll_take g5 off) (refsAll_append h4 (refsAll_drop g5 _))

theorem newElem_sound {e e' : IV} {s off : Nat} {v : AV} {x : Value} {es : List Value} (he : crel I w e es) (hes : es.length = s) (hs : 0 < s) (hx : arel I w X v x) (h : newElem e s off v = some e') :
    ∃ cs : List Value, x.cells = cs.toArray ∧ off + cs.length ≤ s ∧ (∀ u ∈ cs, u.oneCell' = true) ∧ crel I w e' (es.take off ++ cs ++ es.drop (off + cs.length)) ∧ cs.length = widthOf v := by
  unfold newElem at h
  split at h
  · rename_i u
    split at h
    · rename_i hn
      split at h
      · rename_i hok
        cases h
        cases e' with
        | agg l =>
          obtain ⟨cs, h1, h2, h3⟩ := elemOk_sound hok hx
          refine ⟨cs, h1, by omega, crel_one_all _ _ h3, ?_, by rw [crelAll_ints h3]; rfl⟩
          have hd : es.drop (0 + cs.length) = [] := by rw [List.drop_eq_nil_iff]; omega
          rw [hd]; simpa using h3
        | c v => simp [notAgg] at hn
        | sl s ex n f => simp [notAgg] at hn
        | ptr e => simp [notAgg] at hn
        | clo f l => simp [notAgg] at hn
      · cases h
    · rename_i hn
      have hc := crel_of_irel hn hx
      obtain ⟨z, hz, h1⟩ := crel_one hn hc
      simp only [List.cons.injEq, and_true] at hz
      subst hz
      have hlen1 : ([x] : List Value).length = widthOf (.i u) := by
        cases u <;> first | rfl | (simp [notAgg] at hn)
      split at h
      · rename_i hs1
        have hs1' := Nat.eq_of_beq_eq_true hs1
        split at h
        · cases h
          refine ⟨[x], cells_of_oneCell h1, by simp; omega, by simpa using h1, ?_, hlen1⟩
          have hd : es.drop (0 + [x].length) = [] := by rw [List.drop_eq_nil_iff]; simp; omega
          rw [hd]; simpa using hc
        · cases h
      · split at h
        · rename_i l
          split at h
          · rename_i hlt
            cases h
            have hlt' : off < l.length := by simpa [Nat.blt_eq] using hlt
            have hll := crelAll_ints (show crelAll I w l es from he)
            refine ⟨[x], cells_of_oneCell h1, by simp; omega, by simpa using h1, ?_, hlen1⟩
            have : es.take off ++ [x] ++ es.drop (off + [x].length) = es.set off x := by
              rw [List.set_eq_take_append_cons_drop]
              simp; omega
            rw [this]
            show crelAll I w (l.set off u) (es.set off x)
            have key : ∀ (l : List IV) (es : List Value) (off : Nat), crelAll I w l es → crelAll I w (l.set off u) (es.set off x) := by
              intro l
              induction l with
              | nil => intro es off h; simp only [crelAll] at h; subst h; simp [crelAll]
              | cons e l ih =>
                intro es off h
                obtain ⟨a, r, rfl, b, c⟩ := h
                cases off with
                | zero => exact ⟨x, r, by simp, hc, c⟩
                | succ off => exact ⟨a, r.set off x, by simp, b, ih r off c⟩
            exact key l es off he
          · cases h
        · cases h
  · cases h

theorem hStore_arr (hT : TTok C.P T) (h : Rel C env H I X tmps w) {t : TypeId} {id s j off n : Nat} {fx : Bool} {et : TypeId} {f : Nat → IV} {v : AV} {e : IV} {ti : TI} (hid : H[id]? = some (.arr fx et s n f)) (hj : j < n)
    (hne : newElem (f j) s off v = some e) (hti : T.at t = some ti) (hsz : ti.size = widthOf v) (hs : 0 < s)
    (ρ : Operand → Value) {a x : Operand} (ha : arel I w X (.oel id none s j off) (ρ a)) (hx : arel I w X v (ρ x)) (o : Oper) (ho : o.op = .store t a x) :
    HopR C I tmps undefA env (H.set id (.arr fx et s n (updF f j e))) ((execOp ρ o).run C.P w) := by
  obtain ⟨b, ⟨m, c, hb⟩, hav⟩ := ha
  obtain ⟨xs, hown, hflat⟩ := rowrel_flat (show rowrel I w et s (X.val id none) n f from h.hok.obj _ _ hid)
  obtain ⟨es, e1, e2, e3⟩ := hflat.2 j hj
  obtain ⟨cs, h1, h2, h3, h4, h5⟩ := newElem_sound e2 e1 hs hx hne
  have hown' := hown
  obtain ⟨hxl, hown2⟩ := hown
  rcases hown2 with ⟨hn, _⟩ | ⟨g, cap, cur, hv, _, hg, hnc, hcm, hcs, htake⟩
  · rw [hb] at hn; cases hn
  rw [hb] at hv; cases hv
  have hjs : (j + 1) * s ≤ n * s := Nat.mul_le_mul_right _ hj
  rw [Nat.add_mul] at hjs
  have hns : n * s ≤ cur.size := by rw [hcs]; exact Nat.mul_le_mul_right _ hnc
  have hst := run_storeAt C.P w t b (j * s + off) et cur (ρ x) cs h1 (by rw [sizeOf_run hT hti, hsz, h5]) hg (by omega) h3
  have hrun : (execOp ρ o).run C.P w = .ok .skip (w.setRow b (cur.toList.take (j * s + off) ++ cs ++ cur.toList.drop (j * s + off + cs.length)).toArray) := by
    simp only [execOp, ho, hav, Sem.run_bind]
    rw [hst]; simp
  rw [hrun]
  obtain ⟨f1, f2, f3, f4, f5⟩ := setRow_facts w b (cur.toList.take (j * s + off) ++ cs ++ cur.toList.drop (j * s + off + cs.length)).toArray
  have hlv : live H id none := by unfold live; rw [hid]; rfl
  have hIw : ∀ k, I k → (w.setRow b (cur.toList.take (j * s + off) ++ cs ++ cur.toList.drop (j * s + off + cs.length)).toArray).heap[k]? = w.heap[k]? := fun k hk => f5 k (fun e => h.hok.off id none k hlv (by unfold Hd.blk; rw [hb, e]) hk)
  refine ⟨undef, _, X, .inr ⟨rfl, rfl⟩, ⟨[], rfl, rfl⟩, rfl, h.modify (row := none) (b := b) hid rfl (by unfold Hd.blk; rw [hb]) f1 f2 f3 f4 f5 (fun _ => Iff.rfl) (fun hf => by cases fx <;> first | exact hf | rfl) ?_⟩
  show rowrel _ _ _ _ _ _ _
  rw [hb]
  have hcl : cs.length ≤ s := by omega
  have hcur : cur.toList.length = cur.size := Array.length_toList
  -- the cells now
  refine ⟨xs.take (j * s + off) ++ cs ++ xs.drop (j * s + off + cs.length), ⟨?_, .inr ⟨b, c, _, rfl, Nat.zero_le _, setRow_heap w b cur _ et _ hg, hnc, hcm, ?_, ?_⟩⟩, fun i hi => ?_⟩
  · simp only [List.length_append, List.length_take, List.length_drop, hxl]; omega
  · simp only [List.size_toArray, List.length_append, List.length_take, List.length_drop, hcur]; omega
  · rw [← htake]
    simp only [List.toList_toArray]
    have ht1 : (cur.toList.take (n * s)).take (j * s + off) = cur.toList.take (j * s + off) := by rw [List.take_take]; congr 1; omega
    rw [ht1]
    have hl1 : (cur.toList.take (j * s + off) ++ cs).length = j * s + off + cs.length := by simp; omega
    rw [show n * s = (cur.toList.take (j * s + off) ++ cs).length + (n * s - (j * s + off + cs.length)) by omega, List.take_length_add_append]
    congr 1
    rw [List.drop_take]
    congr 1
    omega
  · by_cases hij : i = j
    · subst hij
      refine ⟨es.take off ++ cs ++ es.drop (off + cs.length), by simp; omega, by simp only [updF, if_true]; exact crel_mono (fun _ h => h) hIw _ _ h4, fun k v hk => ?_⟩
      have hxs : ∀ k, k < s → xs[i * s + k]? = es[k]? := by
        intro k hk'
        have hlt : k < es.length := by omega
        rw [List.getElem?_eq_getElem hlt]
        exact e3 k es[k] (by simp [hlt])
      have hks : k < s := by
        have := (List.getElem?_eq_some_iff.1 hk).1
        simp at this; omega
      rw [List.append_assoc, List.getElem?_append] at hk ⊢
      by_cases c1 : k < off
      · rw [if_pos (by simp; omega)] at hk
        rw [if_pos (by simp; omega)]
        rw [List.getElem?_take, if_pos (by omega)] at hk ⊢
        rw [hxs k hks]; exact hk
      · rw [if_neg (by simp; omega)] at hk
        rw [if_neg (by simp; omega)]
        rw [List.getElem?_append] at hk ⊢
        simp only [List.length_take] at hk ⊢
        rw [show min off es.length = off by omega] at hk
        rw [show min (i * s + off) xs.length = i * s + off by omega, show i * s + k - (i * s + off) = k - off by omega]
        split at hk
        · rename_i hlt; rw [if_pos hlt]; exact hk
        · rename_i hlt
          rw [if_neg hlt]
          rw [List.getElem?_drop] at hk ⊢
          rw [show i * s + off + cs.length + (k - off - cs.length) = i * s + k by omega, hxs k hks]
          rw [show off + cs.length + (k - off - cs.length) = k by omega] at hk
          exact hk
    · obtain ⟨es', g1, g2, g3⟩ := hflat.2 i hi
      refine ⟨es', g1, by simp only [updF, if_neg hij]; exact crel_mono (fun _ h => h) hIw _ _ g2, fun k v hk => ?_⟩
      have hk' := g3 k v hk
      have hks : k < s := by rw [← g1]; exact (List.getElem?_eq_some_iff.1 hk).1
      rw [List.append_assoc, List.getElem?_append]
      rcases Nat.lt_or_gt_of_ne hij with hlt | hgt
      · have : (i + 1) * s ≤ j * s := Nat.mul_le_mul_right _ hlt
        rw [Nat.add_mul] at this
        rw [if_pos (by simp; omega), List.getElem?_take, if_pos (by omega)]
        exact hk'
      · have : (j + 1) * s ≤ i * s := Nat.mul_le_mul_right _ hgt
        rw [Nat.add_mul] at this
        rw [if_neg (by simp; omega), List.getElem?_append]
        simp only [List.length_take]
        rw [show min (j * s + off) xs.length = j * s + off by omega, if_neg (by omega), List.getElem?_drop]
        rw [show j * s + off + cs.length + (i * s + k - (j * s + off) - cs.length) = i * s + k by omega]
        exact hk'

end Go.AM

namespace Go.AM
open Go.RowKit

variable {C : Ctx} {env env' : Env} {H H' : List AObj} {I : Nat → Prop} {X X' : Hd} {tmps : Array Value} {w w' : World} {P : Program} {T : TT}

theorem elem_facts (hT : TTok P T) {e : TypeId} {ei : TI} (he : T.at e = some ei) (hf : tiFine ei = true) : ∃ info z, P.info? e = some info ∧ info.zero = some z ∧ z.cells.size = info.size ∧ info.size = ei.size ∧ info.bytes = ei.bytes := by
  obtain ⟨_, info, hi, hsz, hby, hz, hzl, hz1⟩ := hT.ok e _ he
  exact ⟨info, ei.zv, hi, hz, by rw [zv_cells hf hz1]; simp [hsz, hzl], hsz, hby⟩

theorem hAppend_sound (hT : TTok C.P T) (h : Rel C env H I X tmps w) {t ty : TypeId} {x y : AV} {xv yv : Value} {v : AV} {env' : Env} {H' : List AObj} {obs : List Bool}
    (hx : arel I w X x xv) (hy : arel I w X y yv) (hxr : refs (below H.length) x = true) (hop : hAppend T env H t x y = some (v, env', H', obs)) (ho : allTrue obs) :
    ∃ z w' X', (Builtin.append_ #[t, t] ty #[xv, yv]).run C.P w = .ok z w' ∧ arel I w' X' v z ∧ refs (below H'.length) v = true ∧ Rel C env' H' I X' tmps w' := by
  unfold hAppend at hop
  split at hop
  rotate_left
  · cases hop
  rename_i e _ _ _ ht
  split at hop
  rotate_left
  · cases hop
  rename_i ei he
  split at hop
  rotate_left
  · cases hop
  rename_i hs0 hb0 hfine
  have hs : 0 < ei.size := by simpa [Nat.blt_eq] using hs0
  have hb : 0 < ei.bytes := by simpa [Nat.blt_eq] using hb0
  have hu : C.P.underlying t = some (.slice e) := (hT.ok t _ ht).1
  obtain ⟨info, z, hi, hz, hzs, hsz, hby⟩ := elem_facts hT he hfine
  rw [← hsz] at hs; rw [← hby] at hb
  have fin : ∀ {v : Value} {w' : World} {s n : Nat} {f : Nat → IV} {xs : List Value}, Same w w' → w'.ownsRow 0 e s v n xs → (∀ b, v.ownBlock = some b → w.heap.size ≤ b) → flatOk I w s n f xs →
      ∃ X', arel I w' X' (.osl H.length none) v ∧ refs (below (H ++ [AObj.arr false e s n f]).length) (.osl H.length none) = true ∧ Rel C env (H ++ [.arr false e s n f]) I X' tmps w' := by
    intro v w' s n f xs h1 h2 h3 h4
    obtain ⟨z, w2, X', hz, h5, h6, h7⟩ := push_arr h h1 h2 h3 h4
    rcases hz with hz | ⟨hz, _⟩
    · cases hz; exact ⟨X', h5, h6, h7⟩
    · cases hz
  split at hop
  · -- onto nil
    obtain ⟨rfl, _⟩ := irel_c.1 hx
    split at hop
    rotate_left
    · cases hop
    rename_i s m g hsrc
    split at hop
    rotate_left
    · cases hop
    rename_i hse
    cases hop
    have hse' := Nat.eq_of_beq_eq_true hse
    simp only [allTrue, decide_eq_true_eq, and_true] at ho
    obtain ⟨news, hn1, hn2⟩ := srcOf_sound h.hok (by omega) hy hsrc
    rw [hse', ← hsz] at hn1 hn2
    obtain ⟨v', w', hr, hown, hst, hbb⟩ := run_append_cases (P := C.P) (w := w) t ty e info z hu hi hz hzs hs hb (World.ownsRow_nil w 0 e info.size) hn1 (by rw [hby]; simpa using ho)
    have hsame : Same w w' := ⟨hst.os, hst.tape, hst.output, hst.size, fun k hk => hst.other k hk (by simp [Value.ownBlock])⟩
    have hown' : w'.ownsRow 0 e info.size v' m news := by simpa using hown
    obtain ⟨X', h5, h6, h7⟩ := fin (f := g) hsame hown' (fun b hb' => (hbb b hb').resolve_left (by simp [Value.ownBlock])) hn2
    rw [hse', ← hsz]
    exact ⟨v', w', X', hr, h5, h6, h7⟩
  · -- onto an owned slice
    rename_i id
    split at hop
    rotate_left
    · cases hop
    rename_i et s n f hid
    split at hop
    rotate_left
    · cases hop
    rename_i s' m g hsrc
    split at hop
    rotate_left
    · cases hop
    rename_i h1 h2 h3
    cases hop
    have h1' := Nat.eq_of_beq_eq_true h1
    have h2' := Nat.eq_of_beq_eq_true h2
    have h3' := Nat.eq_of_beq_eq_true h3
    subst h3'
    simp only [allTrue, decide_eq_true_eq, and_true] at ho
    obtain ⟨news, hn1, hn2⟩ := srcOf_sound h.hok (by omega) hy hsrc
    obtain ⟨xs, hown0, hflat⟩ := rowrel_flat (show rowrel I w et s (X.val id none) n f from h.hok.obj _ _ hid)
    rw [h2', ← hsz] at hn1 hn2
    rw [h1', ← hsz] at hown0 hflat
    obtain ⟨rfl, hsl⟩ := hx
    obtain ⟨v', w', hr, hown, hst, hbb⟩ := run_append_cases (P := C.P) (w := w) t ty et info z hu hi hz hzs hs hb hown0 hn1 (by rw [hby]; exact ho)
    have hsl' : ∃ a n c, v' = .slice a n c := by rcases ownsRow_val hown with ⟨h, _⟩ | ⟨g, cap, h, _⟩ <;> exact ⟨_, _, _, h⟩
    have hblk : ∀ {X : Hd} {id : Nat} {k : Nat}, (∃ a n c, X.val id none = .slice a n c) → (X.blk id none = some k ↔ (X.val id none).ownBlock = some k) := by
      intro X id k hsl
      obtain ⟨a, n, c, hsl⟩ := hsl
      unfold Hd.blk; rw [hsl]; cases a <;> simp [Value.ownBlock]
    have hrel := h.rehead (w' := w') (o' := .arr false et s (n + m) (appF n f g)) hid (fun row => Iff.rfl) (fun row => Iff.rfl) rfl v' hst.os hst.tape hst.output hst.size
      (fun k hk hne => hst.other k hk (fun e => hne ((hblk hsl).2 e))) (fun b hb' => by
        have e1 : (X.put id none v').val id none = v' := Hd.put_same _ _ _ _
        have h4 := (hblk (by rw [e1]; exact hsl')).1 hb'
        rw [e1] at h4
        rcases hbb b h4 with h5 | h5
        · exact .inl ((hblk hsl).2 h5)
        · exact .inr h5) (fun X' hX' => by
        show rowrel _ _ _ _ _ _ _
        rw [hX', h1', ← hsz]
        refine rowrel_of_flat hown ?_
        have hIw : ∀ k, I k → w'.heap[k]? = w.heap[k]? := fun k hk => hst.other k (h.ilt k hk) (fun e => h.hok.off id none k (by unfold live; rw [hid]; rfl) ((hblk hsl).2 e) hk)
        exact flatOk_append (flatOk_mono (fun _ h => h) hIw hflat) (flatOk_mono (fun _ h => h) hIw hn2)) (fun _ _ h => by cases h)
    refine ⟨v', w', _, hr, ⟨(Hd.put_same _ _ _ _).symm, hsl'⟩, ?_, hrel⟩
    simpa [refs, below, killH_length] using hxr
  · -- onto a slice whose capacity is its length
    rename_i s n f
    split at hop
    rotate_left
    · cases hop
    rename_i s' m g hsrc
    split at hop
    rotate_left
    · cases hop
    rename_i h1 h2
    cases hop
    have h1' := Nat.eq_of_beq_eq_true h1
    have h2' := Nat.eq_of_beq_eq_true h2
    simp only [allTrue, decide_eq_true_eq, and_true] at ho
    obtain ⟨news, hn1, hn2⟩ := srcOf_sound h.hok (by omega) hy hsrc
    rw [h2', ← hsz] at hn1 hn2
    obtain ⟨a, cap, hxv, hc, hex, h4⟩ := hx
    simp only [List.cons.injEq, and_true] at hxv
    subst hxv
    have hcap := hex rfl
    subst hcap
    rcases h4 with h4 | ⟨b, o, rfl, hI, h5⟩
    · subst h4
      -- no elements: the header may be anything
      obtain ⟨hl, h1a, ax, cx, rfl, hsrc2⟩ := hn1
      obtain ⟨ad, rfl, hnews⟩ := hsrc2.resolve_left (by omega)
      cases a with
      | none =>
        obtain ⟨v', w', hr, hown, hst, hbb⟩ := run_append_cases (P := C.P) (w := w) t ty e info z hu hi hz hzs hs hb (World.ownsRow_nil w 0 e info.size) ⟨hl, h1a, _, _, rfl, .inr ⟨ad, rfl, hnews⟩⟩ (by rw [hby]; simpa using ho.1)
        have hsame : Same w w' := ⟨hst.os, hst.tape, hst.output, hst.size, fun k hk => hst.other k hk (by simp [Value.ownBlock])⟩
        have hfl : flatOk I w info.size (0 + m) (appF 0 f g) news := ⟨by simpa using hn2.1, fun j hj => by
          obtain ⟨es, q1, q2, q3⟩ := hn2.2 j (by omega)
          exact ⟨es, q1, by simpa [appF] using q2, q3⟩⟩
        obtain ⟨X', h5, h6, h7⟩ := fin hsame (by simpa using hown) (fun b hb' => (hbb b hb').resolve_left (by simp [Value.ownBlock])) hfl
        rw [h1', ← hsz]
        exact ⟨v', w', X', hr, h5, h6, h7⟩
      | some ab =>
        obtain ⟨v', w', hr, hown, hsame, hbb⟩ := run_append_exact (P := C.P) (w := w) (ab := ab) (n := 0) (xs := []) t ty e info z hu hi hz hzs hb (by simp) (fun j u hu => by simp at hu) ⟨hl, h1a, _, _, rfl, .inr ⟨ad, rfl, hnews⟩⟩ ho.2 (by rw [hby]; exact ho.1)
        have hfl : flatOk I w info.size (0 + m) (appF 0 f g) news := ⟨by simpa using hn2.1, fun j hj => by
          obtain ⟨es, q1, q2, q3⟩ := hn2.2 j (by omega)
          exact ⟨es, q1, by simpa [appF] using q2, q3⟩⟩
        obtain ⟨X', h5, h6, h7⟩ := fin hsame (by simpa using hown) hbb hfl
        rw [h1', ← hsz]
        exact ⟨v', w', X', hr, h5, h6, h7⟩
    · obtain ⟨xs, hx1, hx2⟩ := flat_exists h5
      rw [h1', ← hsz] at hx1
      obtain ⟨v', w', hr, hown, hsame, hbb⟩ := run_append_exact (P := C.P) (w := w) t ty e info z hu hi hz hzs hb hx1.1 (fun j u hu => by rw [Addr.add_at]; exact hx2 j u hu) hn1 ho.2 (by rw [hby]; exact ho.1)
      obtain ⟨X', h5, h6, h7⟩ := fin hsame hown hbb (flatOk_append hx1 hn2)
      rw [h1', ← hsz]
      exact ⟨v', w', X', hr, h5, h6, h7⟩
  · cases hop

/-! ### maps -/
theorem zeroElem_rel {i : TI} (h : tiFine i = true) (h1 : ∀ v ∈ i.zero, v.oneCell' = true) : irel I w (zeroElem i) i.zv := by
  obtain ⟨ty, s, b, z⟩ := i
  unfold tiFine at h
  unfold zeroElem TI.zv
  have hall : ∀ (l : List Value), (∀ v ∈ l, v.oneCell' = true) → crelAll I w (l.map .c) l := by
    intro l
    induction l with
    | nil => intro _; rfl
    | cons v l ih => intro h; exact ⟨v, l, rfl, ⟨rfl, h v (by simp)⟩, ih (fun u hu => h u (by simp [hu]))⟩
  cases ty <;> simp only at h ⊢ <;> first | (cases h; done) | exact ⟨z, rfl, hall z h1⟩ | skip
  all_goals
    cases z with
    | nil => simp at h
    | cons v z =>
      cases z with
      | nil => exact irel_c.2 ⟨rfl, h1 v (by simp)⟩
      | cons _ _ => simp at h

theorem hop_makeMap (hT : TTok C.P T) (h : Rel C env H I X tmps w) {t kt et : TypeId} {k : IntKind} {ei : TI} (he : T.at et = some ei) (hf : tiFine ei = true) (ρ : Operand → Value) (o : Oper) (ho : o.op = .makeMap t none) :
    HopR C I tmps (.omap H.length) env (H ++ [.map k et 0 (fun _ => false) (fun _ => zeroElem ei)]) ((execOp ρ o).run C.P w) := by
  obtain ⟨_, info, hi, hsz, _, hz, hzl, hz1⟩ := hT.ok et _ he
  have hrun : (execOp ρ o).run C.P w = .ok (.value (.map (some w.heap.size))) (w.alloc (.map #[] 0)) := by
    simp [execOp, ho, Instr.makeMap]
  rw [hrun]
  have hs := Same.alloc w (.map #[] 0)
  obtain ⟨X', hv, hX, hrel⟩ := h.push hs (.map (some w.heap.size)) (.map k et 0 (fun _ => false) (fun _ => zeroElem ei)) (fun _ h => h) (fun X' hv hX => by
    refine ⟨w.heap.size, #[], 0, hv, heap_alloc_new w _, rfl, by simp, fun y => ⟨fun h => (by cases h), fun _ => ⟨rfl, ei.zv, by simp [hi, hz], ?_⟩⟩⟩
    exact irel_mono (fun _ h => h) (fun b hb => hs.2.2.2.2 b (h.ilt b hb)) _ _ (zeroElem_rel hf hz1)) (fun b hb => by simp at hb; omega)
  exact ⟨_, _, X', .inl rfl, ⟨hv.symm, _, rfl⟩, by simp [refs, below, Nat.blt_eq], hrel⟩

theorem find_modify {k : IntKind} {y y' : Int} {l : List MapEntry} {j : Nat} {e e2 : MapEntry} (hj : l[j]? = some e) (hk : e.key = .int k y) (hk2 : e2.key = .int k y) (hf : l.find? (keyEq k y) = some e) (hfirst : ∀ i e', i < j → l[i]? = some e' → keyEq k y e' = false) :
    (l.set j e2).find? (keyEq k y') = if y' = y then some e2 else l.find? (keyEq k y') := by
  induction l generalizing j with
  | nil => simp at hj
  | cons a l ih =>
    cases j with
    | zero =>
      simp at hj; subst hj
      simp only [List.set_cons_zero, List.find?_cons]
      by_cases h : y' = y
      · subst h; simp [keyEq, hk2]
      · have h1 : keyEq k y' e2 = false := by simp [keyEq, hk2, h]
        have h2 : keyEq k y' a = false := by simp [keyEq, hk, h]
        simp [h1, h2, h]
    | succ j =>
      simp only [List.set_cons_succ, List.find?_cons]
      have ha : keyEq k y a = false := hfirst 0 a (by omega) rfl
      simp only [List.find?_cons, ha] at hf
      have := ih (j := j) (by simpa using hj) hf (fun i e' hi he => hfirst (i + 1) e' (by omega) (by simpa using he))
      rw [this]
      by_cases h : y' = y
      · subst h; simp [ha]
      · simp [h]

theorem findNow_first (k' k : IntKind) (y : Int) : ∀ (l : List MapEntry) (i : Nat), (∀ e ∈ l, ∃ z, e.key = .int k z) →
    (l.find? (keyEq k y) = none ∧ Instr.findNow (.int k') (.int k y) l i = some none) ∨ ∃ j e, l.find? (keyEq k y) = some e ∧ l[j]? = some e ∧ e.key = .int k y ∧ Instr.findNow (.int k') (.int k y) l i = some (some (i + j, e.val)) ∧ ∀ i e', i < j → l[i]? = some e' → keyEq k y e' = false
  | [], i, _ => .inl ⟨rfl, rfl⟩
  | e :: l, i, h => by
    obtain ⟨z, hz⟩ := h e (by simp)
    by_cases hyz : y = z
    · subst hyz
      exact .inr ⟨0, e, by simp [keyEq, hz], rfl, hz, by simp [Instr.findNow, Instr.sameNow, hz], fun i e' hi => by omega⟩
    · have h1 : keyEq k y e = false := by simp [keyEq, hz, hyz]
      have h2 : Instr.findNow (.int k') (.int k y) (e :: l) i = Instr.findNow (.int k') (.int k y) l (i + 1) := by
        have h3 : (y == z) = false := by simpa using hyz
        simp only [Instr.findNow, Instr.sameNow, hz, if_true, h3]
      rw [h2]
      rcases findNow_first k' k y l (i + 1) (fun e he => h e (by simp [he])) with ⟨h3, h4⟩ | ⟨j, e', h3, h4, h5, h6, h7⟩
      · exact .inl ⟨by simp [h1, h3], h4⟩
      · refine .inr ⟨j + 1, e', by simp [h1, h3], by simpa using h4, h5, by rw [h6]; congr 3; omega, fun i2 e2 hi he => ?_⟩
        cases i2 with
        | zero => simp at he; subst he; exact h1
        | succ i2 => exact h7 i2 e2 (by omega) (by simpa using he)

theorem sameBits_int (k : IntKind) (y : Int) : Instr.sameBits 10000 (.int k y) (.int k y) = true := by
  unfold Instr.sameBits
  simp

theorem hop_mapUpdate (hT : TTok C.P T) (h : Rel C env H I X tmps w) {t kt et' et : TypeId} {a b : Nat} {z : List Value} {k : IntKind} {id card : Nat} {dom : Int → Bool} {val : Int → IV} {y : Int} {e : IV} {sz by2 : Nat} {z2 : List Value}
    (ht : T.at t = some ⟨.map kt et', a, b, z⟩) (hkt : T.at kt = some ⟨.int k, sz, by2, z2⟩) (hid : H[id]? = some (.map k et card dom val)) (ρ : Operand → Value) {m kk x : Operand}
    (hm : arel I w X (.omap id) (ρ m)) (hk : ρ kk = .int k y) (hx : irel I w e (ρ x)) (o : Oper) (ho : o.op = .mapUpdate t m kk x) :
    HopR C I tmps undefA env (H.set id (.map k et (card + cond (dom y) 0 1) (fun z => z == y || dom z) (fun z => if z = y then e else val z))) ((execOp ρ o).run C.P w) := by
  obtain ⟨hmv, r0, hr0⟩ := hm
  have hu : C.P.underlying t = some (.map kt et') := (hT.ok t _ ht).1
  have huk : C.P.underlying kt = some (.int k) := (hT.ok kt _ hkt).1
  obtain ⟨r, es, clock, h2, h3, h4, h5, h6⟩ := h.hok.obj _ _ hid
  rw [h2] at hmv
  have hk1 : MapKept.IsKey (.int k) (.int k y) := by simp [MapKept.IsKey]
  have hlv : live H id none := by unfold live; rw [hid]; rfl
  have hblk : X.blk id none = some r := by unfold Hd.blk; rw [h2]
  have hlt : r < w.heap.size := (Array.getElem?_eq_some_iff.1 h3).1
  -- a new map object in the block
  have done : ∀ (es' : Array MapEntry) (clock' : Nat), (execOp ρ o).run C.P w = .ok .skip { w with heap := w.heap.setIfInBounds r (.map es' clock') } →
      es'.size = card + cond (dom y) 0 1 → (∀ e ∈ es'.toList, ∃ y, e.key = .int k y) →
      (∀ y', es'.toList.find? (keyEq k y') = if y' = y then es'.toList.find? (keyEq k y) else es.toList.find? (keyEq k y')) → (∃ e', es'.toList.find? (keyEq k y) = some e' ∧ e'.val = ρ x) →
      HopR C I tmps undefA env (H.set id (.map k et (card + cond (dom y) 0 1) (fun z => z == y || dom z) (fun z => if z = y then e else val z))) ((execOp ρ o).run C.P w) := by
    intro es' clock' hrun g1 g2 g3 g4
    rw [hrun]
    have hother : ∀ k, k ≠ r → ({ w with heap := w.heap.setIfInBounds r (.map es' clock') } : World).heap[k]? = w.heap[k]? := fun k hk => by
      show (w.heap.setIfInBounds r _)[k]? = _
      simp [Ne.symm hk]
    have hIw : ∀ k, I k → ({ w with heap := w.heap.setIfInBounds r (.map es' clock') } : World).heap[k]? = w.heap[k]? := fun k hk => hother k (fun e => h.hok.off id none k hlv (by rw [hblk, e]) hk)
    refine ⟨undef, _, X, .inr ⟨rfl, rfl⟩, ⟨[], rfl, rfl⟩, rfl, h.modify (row := none) (b := r) hid rfl hblk rfl rfl rfl (by simp) hother (fun _ => Iff.rfl) (fun _ => rfl) ?_⟩
    refine ⟨r, es', clock', h2, by show (w.heap.setIfInBounds r _)[r]? = _; simp [hlt], g1, g2, fun y' => ⟨fun hd => ?_, fun hd => ?_⟩⟩
    · rw [g3 y']
      by_cases hy : y' = y
      · subst hy
        obtain ⟨e', q1, q2⟩ := g4
        exact ⟨e', by simpa using q1, by simp only [if_true]; rw [q2]; exact irel_mono (fun _ h => h) hIw _ _ hx⟩
      · simp only [hy, if_false]
        simp only [Bool.or_eq_true, beq_iff_eq, hy, false_or] at hd
        obtain ⟨e', q1, q2⟩ := (h6 y').1 hd
        exact ⟨e', q1, irel_mono (fun _ h => h) hIw _ _ q2⟩
    · simp only [Bool.or_eq_false_iff, beq_eq_false_iff_ne] at hd
      rw [g3 y']
      simp only [hd.1, if_false]
      obtain ⟨q1, z', q2, q3⟩ := (h6 y').2 hd.2
      exact ⟨q1, z', q2, irel_mono (fun _ h => h) hIw _ _ q3⟩
  rcases findNow_first k k y es.toList 0 h5 with ⟨f1, f2⟩ | ⟨j, e0, f1, f2, f3, f4, f5⟩
  · have hd : dom y = false := by
      cases hd : dom y with
      | false => rfl
      | true => obtain ⟨e, he, _⟩ := (h6 y).1 hd; rw [f1] at he; cases he
    refine done (es.push { key := .int k y, val := ρ x, born := clock }) (clock + 1) ?_ (by simp [hd, h4]) ?_ ?_ ?_
    · simp only [execOp, ho, hmv, hk, Instr.mapUpdate, Sem.run_bind, run_underlying hu, Result.andThen_ok, run_gm h3, MapKept.run_checkKey huk hk1, MapKept.run_findKey huk f2, MapKept.run_setObj_map _ h3, Sem.run_pure]
    · intro e' he'
      simp only [Array.toList_push, List.mem_append, List.mem_singleton] at he'
      rcases he' with he' | rfl
      · exact h5 e' he'
      · exact ⟨y, rfl⟩
    · intro y'
      simp only [Array.toList_push, List.find?_append, f1]
      by_cases hy : y' = y
      · subst hy; simp [f1]
      · have : keyEq k y' { key := .int k y, val := ρ x, born := clock } = false := by simp [keyEq, hy]
        simp [hy, this]
    · exact ⟨{ key := .int k y, val := ρ x, born := clock }, by simp [List.find?_append, f1, keyEq], rfl⟩
  · have hd : dom y = true := by
      cases hd : dom y with
      | true => rfl
      | false => have := ((h6 y).2 hd).1; rw [f1] at this; cases this
    have hjlt : j < es.size := by have := (List.getElem?_eq_some_iff.1 f2).1; simpa using this
    have hej : es[j]? = some e0 := by simpa using f2
    refine done (es.modify j fun e => { e with key := .int k y, val := ρ x }) clock ?_ (by simp [hd, h4]) ?_ ?_ ?_
    · have hks : (Instr.keyThatStays (((es[j]?).map (·.key)).getD (.int k y)) (.int k y)).run C.P w = .ok (.int k y) w := by
        rw [hej]; simp [Instr.keyThatStays, f3, sameBits_int]
      simp only [Nat.zero_add] at f4
      simp only [execOp, ho, hmv, hk, Instr.mapUpdate, Sem.run_bind, run_underlying hu, Result.andThen_ok, run_gm h3, MapKept.run_checkKey huk hk1, MapKept.run_findKey huk f4, hks, MapKept.run_setObj_map _ h3, Sem.run_pure]
    all_goals
      have hml : (es.modify j fun e => { e with key := .int k y, val := ρ x }).toList = es.toList.set j { e0 with key := .int k y, val := ρ x } := by
        rw [Array.toList_modify]
        apply List.ext_getElem?
        intro i
        rw [List.getElem?_modify, List.getElem?_set]
        by_cases hij : j = i
        · subst hij
          have hjl : j < es.toList.length := by simpa using hjlt
          simp only [if_true, if_pos hjl, f2]
          rfl
        · simp [hij]
      rw [hml]
    · intro e' he'
      rcases List.mem_or_eq_of_mem_set he' with he' | rfl
      · exact h5 e' he'
      · exact ⟨y, rfl⟩
    · intro y'
      rw [find_modify (y' := y') f2 f3 rfl f1 f5, find_modify (y' := y) f2 f3 rfl f1 f5]
      by_cases hy : y' = y
      · simp [hy]
      · simp [hy]
    · exact ⟨_, by rw [find_modify (y' := y) f2 f3 rfl f1 f5]; simp; rfl, rfl⟩

end Go.AM

namespace Go.AM
open Go.RowKit

variable {C : Ctx} {env env' : Env} {H H' : List AObj} {I : Nat → Prop} {X X' : Hd} {tmps : Array Value} {w w' : World} {P : Program} {T : TT}

theorem ty_underlying (hT : TTok P T) {t : TypeId} {i : TI} (h : T.at t = some i) (ho : ∀ s b z, i ≠ ⟨.other, s, b, z⟩) : ∃ d, P.underlying t = some d := by
  obtain ⟨h1, _⟩ := hT.ok t _ h
  obtain ⟨ty, sz, by', z⟩ := i
  cases ty with
  | other => exact (ho _ _ _ rfl).elim
  | struct fs e => obtain ⟨arr, h5, _⟩ := h1; exact ⟨_, h5⟩
  | func => obtain ⟨a, b, c, h5⟩ := h1; exact ⟨_, h5⟩
  | bool => exact ⟨_, h1⟩
  | int k => exact ⟨_, h1⟩
  | str => exact ⟨_, h1⟩
  | ptr e => exact ⟨_, h1⟩
  | slice e => exact ⟨_, h1⟩
  | map k e => exact ⟨_, h1⟩

theorem optInt_sound {F : Operand → Option AV} {ρ : Operand → Value} {len : Nat} {x : Option Operand} {i : Option Int} (hF : ∀ y, x = some y → FOk I w X len F ρ [y]) (h : optInt F x = some i) : OV i (x.map ρ) := by
  unfold optInt at h
  split at h
  · cases h; exact .none
  · rename_i y
    split at h
    · rename_i k n hy
      cases h
      obtain ⟨h1, _⟩ := hF y rfl y (by simp) _ hy
      obtain ⟨h2, _⟩ := irel_c.1 h1
      show OV (some n) (some (ρ y))
      rw [h2]
      exact .some k n
    · cases h

theorem refs_i (p : Nat → Option Nat → Bool) (v : IV) : refs p (.i v) = true := rfl

theorem qFieldAddr_refs {p : Nat → Option Nat → Bool} {t : TypeId} {x : AV} {f : Nat} {v : AV} (hr : refs p x = true) (h : qFieldAddr T t x f = some v) : refs p v = true := by
  unfold qFieldAddr at h
  repeat' split at h
  all_goals first | (cases h; done) | (cases h; rfl) | (cases h; exact hr)

theorem qIndexAddr_refs {p : Nat → Option Nat → Bool} {t : TypeId} {x : AV} {i : Int} {v : AV} {obs : List Bool} (hr : refs p x = true) (h : qIndexAddr T H t x i = some (v, obs)) : refs p v = true := by
  unfold qIndexAddr at h
  repeat' split at h
  all_goals first | (cases h; done) | (cases h; rfl) | (cases h; exact hr)

theorem qSlice_refs {p : Nat → Option Nat → Bool} {t : TypeId} {x : AV} {lo hi mx : Option Int} {v : AV} {obs : List Bool} (h : qSlice T t x lo hi mx = some (v, obs)) : refs p v = true := by
  unfold qSlice at h
  repeat' split at h
  all_goals first | (cases h; done) | (cases h; rfl)

theorem qLookup_refs {p : Nat → Option Nat → Bool} {t : TypeId} {m x : AV} {ok : Bool} {v : AV} {obs : List Bool} (h : qLookup T H t m x ok = some (v, obs)) : refs p v = true := by
  unfold qLookup at h
  repeat' split at h
  all_goals first | (cases h; done) | (cases h; rfl)

theorem qConvert_refs {p : Nat → Option Nat → Bool} {s d : TypeId} {x : AV} {v : AV} {obs : List Bool} (h : qConvert T H s d x = some (v, obs)) : refs p v = true := by
  unfold qConvert at h
  repeat' split at h
  all_goals first | (cases h; done) | (cases h; rfl)

theorem qLen_refs {p : Nat → Option Nat → Bool} {t : TypeId} {x : AV} {v : AV} {obs : List Bool} (h : qLen T H t x = some (v, obs)) : refs p v = true := by
  unfold qLen at h
  repeat' split at h
  all_goals first | (cases h; done) | (cases h; rfl)

theorem qIndex_refs {p : Nat → Option Nat → Bool} {t : TypeId} {x : AV} {i : Int} {v : AV} {obs : List Bool} (h : qIndex T t x i = some (v, obs)) : refs p v = true := by
  unfold qIndex at h
  repeat' split at h
  all_goals first | (cases h; done) | (cases h; rfl)

/-- **A quiet operation**: its value, the same in every world that holds what this one holds. -/
theorem qop_sound (hT : TTok C.P T) (hrel : Rel C env H I X tmps w) {nw : Bool} {F : Operand → Option AV} {ρ : Operand → Value} {o : Oper} {v : AV} {obs : List Bool}
    (hF : FOk I w X H.length F ρ o.op.operands.toList) (h : qop nw T H F o.op = some (v, obs)) (ho : allTrue obs) :
    ∃ z, arel I w X v z ∧ refs (below H.length) v = true ∧ ∀ w', Same w w' → (execOp ρ o).run C.P w' = .ok (.value z) w' := by
  have hok := hrel.hok
  cases hop : o.op with
  | move x =>
    rw [hop] at h hF
    simp only [qop] at h
    split at h
    · rename_i u hu
      cases h
      obtain ⟨h1, h2⟩ := hF x (by simp [Op.operands]) _ hu
      exact ⟨_, h1, h2, fun w' _ => by simp [execOp, hop]⟩
    · cases h
  | assign x =>
    rw [hop] at h hF
    simp only [qop] at h
    split at h
    · rename_i u hu
      cases h
      obtain ⟨h1, h2⟩ := hF x (by simp [Op.operands]) _ hu
      exact ⟨_, h1, h2, fun w' _ => by simp [execOp, hop]⟩
    · cases h
  | binOp op t x y t2 =>
    rw [hop] at h hF
    simp only [qop] at h
    split at h
    · rename_i a b ha hb
      split at h
      · rename_i u obs' hu
        cases h
        obtain ⟨h1, _⟩ := hF x (by simp [Op.operands]) _ ha
        obtain ⟨h2, _⟩ := hF y (by simp [Op.operands]) _ hb
        obtain ⟨z, h3, h4⟩ := bin_sound hT hok h1 h2 hu ho x y
        refine ⟨z, h3, rfl, fun w' _ => ?_⟩
        have := h4 w'
        simp only [Sem.run_bind] at this
        simp only [execOp, hop, Sem.run_bind, this]
        simp
      · cases h
    · cases h
  | unOp op t x =>
    rw [hop] at h hF
    simp only [qop] at h
    split at h
    · rename_i a ha
      split at h
      · rename_i u obs' hu
        cases h
        obtain ⟨h1, _⟩ := hF x (by simp [Op.operands]) _ ha
        obtain ⟨z, h3, h4⟩ := un_sound (P := C.P) h1 hu
        exact ⟨z, h3, rfl, fun w' _ => by simp [execOp, hop, h4 w']⟩
      · cases h
    · cases h
  | convert s d x =>
    rw [hop] at h hF
    simp only [qop] at h
    split at h
    · cases h
    · rename_i i a hno hs ha
      obtain ⟨h1, _⟩ := hF x (by simp [Op.operands]) _ ha
      obtain ⟨z, h3, h4⟩ := qConvert_sound hT hok (ty_underlying hT hs (fun s b z e => hno s b z e)) h1 h
      exact ⟨z, h3, qConvert_refs h, fun w' hs => by simp [execOp, hop, h4 w' hs]⟩
    · cases h
  | field s x f =>
    rw [hop] at h hF
    simp only [qop] at h
    split at h
    · rename_i a ha
      split at h
      · rename_i u hu
        cases h
        obtain ⟨h1, h2⟩ := hF x (by simp [Op.operands]) _ ha
        obtain ⟨z, h3, h4⟩ := qField_sound hT h1 hu
        refine ⟨z, h3, ?_, fun w' _ => by simp [execOp, hop, h4 w']⟩
        unfold qField at hu
        split at hu
        · exact getI_refs h2 hu
        · cases hu
      · cases h
    · cases h
  | fieldAddr s x f =>
    rw [hop] at h hF
    simp only [qop] at h
    split at h
    · rename_i a ha
      split at h
      · rename_i u hu
        cases h
        obtain ⟨h1, h2⟩ := hF x (by simp [Op.operands]) _ ha
        obtain ⟨z, h3, h4⟩ := qFieldAddr_sound hT h1 hu
        exact ⟨z, h3, qFieldAddr_refs h2 hu, fun w' _ => by simp [execOp, hop, h4 w']⟩
      · cases h
    · cases h
  | indexAddr t x i =>
    rw [hop] at h hF
    simp only [qop] at h
    split at h
    · rename_i a k n ha hi
      obtain ⟨h1, h2⟩ := hF x (by simp [Op.operands]) _ ha
      obtain ⟨h3, _⟩ := hF i (by simp [Op.operands]) _ hi
      obtain ⟨h4, _⟩ := irel_c.1 h3
      obtain ⟨z, h5, h6⟩ := qIndexAddr_sound (k := k) hT hok h1 h ho
      exact ⟨z, h5, qIndexAddr_refs h2 h, fun w' _ => by simp [execOp, hop, h4, h6 w']⟩
    · cases h
  | index t x i =>
    rw [hop] at h hF
    simp only [qop] at h
    split at h
    · rename_i a k n ha hi
      obtain ⟨h1, h2⟩ := hF x (by simp [Op.operands]) _ ha
      obtain ⟨h3, _⟩ := hF i (by simp [Op.operands]) _ hi
      obtain ⟨h4, _⟩ := irel_c.1 h3
      obtain ⟨z, h5, h6⟩ := qIndex_sound (k := k) hT h1 h ho
      exact ⟨z, h5, qIndex_refs h, fun w' _ => by simp [execOp, hop, h4, h6 w']⟩
    · cases h
  | load t a =>
    rw [hop] at h hF
    simp only [qop] at h
    split at h
    · rename_i u hu
      obtain ⟨h1, h2⟩ := hF a (by simp [Op.operands]) _ hu
      obtain ⟨⟨z, h3, h4⟩, h5⟩ := qLoad_sound hT hok hrel.ilt h1 h2 h ho
      exact ⟨z, h3, h5, fun w' hs => by simp [execOp, hop, h4 w' hs]⟩
    · cases h
  | slice t x lo hi mx =>
    rw [hop] at h hF
    simp only [qop] at h
    split at h
    · rename_i a l hh m ha hl hhi hm
      obtain ⟨h1, h2⟩ := hF x (by simp [Op.operands]) _ ha
      have e1 := optInt_sound (fun y hy => hF.mono (by subst hy; simp [Op.operands])) hl
      have e2 := optInt_sound (fun y hy => hF.mono (by subst hy; simp [Op.operands])) hhi
      have e3 := optInt_sound (fun y hy => hF.mono (by subst hy; simp [Op.operands])) hm
      obtain ⟨z, h5, h6⟩ := qSlice_sound hT h1 h ho e1 e2 e3
      exact ⟨z, h5, qSlice_refs h, fun w' _ => by simp [execOp, hop, h6 w']⟩
    · cases h
  | lookup t m x ok =>
    rw [hop] at h hF
    simp only [qop] at h
    split at h
    · rename_i a b ha hb
      obtain ⟨h1, _⟩ := hF m (by simp [Op.operands]) _ ha
      obtain ⟨h2, _⟩ := hF x (by simp [Op.operands]) _ hb
      obtain ⟨z, h5, h6⟩ := qLookup_sound hT hok h1 h2 h
      exact ⟨z, h5, qLookup_refs h, fun w' hs => by simp [execOp, hop, h6 w' hs]⟩
    · cases h
  | makeFunc fn first captured =>
    rw [hop] at h hF
    cases fn with
    | func f =>
      simp only [qop] at h
      split at h
      · rename_i l hfirst hl
        cases h
        obtain ⟨h1, h2⟩ := fetchAll_sound (hF.mono (by intro x hx; show x ∈ (first ++ captured).toList; rw [Array.toList_append]; exact List.mem_append_right _ hx)) hl
        have hf0 : first = #[] := by cases first; simp_all
        subst hf0
        refine ⟨.func (.func f) #[] (captured.map ρ), ?_, ?_, fun w' _ => by simp [execOp, hop, Instr.makeFunc]⟩
        · have hc : captured.map ρ = (captured.toList.map ρ).toArray := by cases captured; simp
          rw [hc]
          unfold mkClo
          split
          · rename_i m hm hone
            exact ⟨_, rfl, allImm_sound hm h1 (arelAll_oneCell h1 hone)⟩
          · exact ⟨_, rfl, h1⟩
        · unfold mkClo
          split
          · rfl
          · exact h2
      · cases h
    | method _ => simp [qop] at h
    | methodOf _ _ => simp [qop] at h
    | via _ _ _ _ => simp [qop] at h
    | yield _ => simp [qop] at h
  | extract x i =>
    rw [hop] at h hF
    simp only [qop] at h
    split at h
    · rename_i l hl
      obtain ⟨h1, h2⟩ := hF x (by simp [Op.operands]) _ hl
      split at h
      · cases h
      · rename_i hne u hu
        cases h
        obtain ⟨cs, h3, h4⟩ := h1
        obtain ⟨z, h5, h6⟩ := arelAll_get h4 hu
        refine ⟨z, h6, refsAll_get h2 hu, fun w' _ => ?_⟩
        have h7 : cs.toArray[i]? = some z := by simpa using h5
        simp only [execOp, hop, h3, Instr.extract, h7, Sem.run_bind, Sem.run_pure, Result.andThen_ok]
      · cases h
    · cases h
  | nilCheck x =>
    rw [hop] at h hF
    simp only [qop] at h
    split at h
    · rename_i e he
      cases h
      obtain ⟨h1, h2⟩ := hF x (by simp [Op.operands]) _ he
      obtain ⟨b, oo, es, hv, _⟩ := id h1
      simp only [List.cons.injEq, and_true] at hv
      exact ⟨_, h1, h2, fun w' _ => by simp [execOp, hop, hv]⟩
    · rename_i e off he
      cases h
      obtain ⟨h1, h2⟩ := hF x (by simp [Op.operands]) _ he
      obtain ⟨b, _, hv⟩ := id h1
      exact ⟨_, h1, h2, fun w' _ => by simp [execOp, hop, hv]⟩
    · rename_i e row s j off he
      cases h
      obtain ⟨h1, h2⟩ := hF x (by simp [Op.operands]) _ he
      obtain ⟨b, _, hv⟩ := id h1
      exact ⟨_, h1, h2, fun w' _ => by simp [execOp, hop, hv]⟩
    · rename_i f l he
      cases h
      obtain ⟨h1, h2⟩ := hF x (by simp [Op.operands]) _ he
      obtain ⟨vs, hv, _⟩ := id h1
      simp only [List.cons.injEq, and_true] at hv
      exact ⟨_, h1, h2, fun w' _ => by simp [execOp, hop, hv]⟩
    · rename_i f l he
      cases h
      obtain ⟨h1, h2⟩ := hF x (by simp [Op.operands]) _ he
      obtain ⟨vs, hv, _⟩ := id h1
      exact ⟨_, h1, h2, fun w' _ => by simp [execOp, hop, hv]⟩
    · cases h
  | build t parts =>
    rw [hop] at h hF
    simp only [qop] at h
    split at h
    · rename_i u hu
      cases h
      obtain ⟨⟨z, h1, h2⟩, h3⟩ := qBuild_sound hT (hF.mono (by intro x hx; show x ∈ ((parts.toList.map (·.2)).toArray).toList; simpa using hx)) hu
      refine ⟨z, h1, h3, fun w' _ => ?_⟩
      have := h2 w'
      have hp : (parts.toList.map fun p => (p.1, ρ p.2)).toArray = parts.map fun p => (p.1, ρ p.2) := by cases parts; simp
      rw [hp] at this
      simp [execOp, hop, this]
    · cases h
  | call c =>
    rw [hop] at h hF
    obtain ⟨callee, args, ts⟩ := c
    cases callee with
    | value f => simp [qop] at h
    | invoke r m => simp [qop] at h
    | builtin b =>
      cases b <;> simp only [qop] at h <;> try (cases h; done)
      case len =>
        split at h
        · rename_i x t hx ht
          split at h
          · rename_i u hu
            have ha : args = #[x] := by cases args; simp_all
            have hta : ts = #[t] := by cases ts; simp_all
            subst ha hta
            obtain ⟨h1, h2⟩ := hF x (by simp [Op.operands, Call.operands]) _ hu
            obtain ⟨z, h5, h6⟩ := qLen_sound (ty := o.type) hT hok h1 h ho
            exact ⟨z, h5, qLen_refs h, fun w' hs => by simp [execOp, hop, resolve, invoke, builtin, h6 w' hs]⟩
          · cases h
        · cases h
      case max =>
        split at h
        · rename_i x y hxy
          split at h
          · rename_i k a k2 b hx hy
            cases h
            have ha : args = #[x, y] := by cases args; simp_all
            subst ha
            obtain ⟨h1, _⟩ := hF x (by simp [Op.operands, Call.operands]) _ hx
            obtain ⟨h2, _⟩ := hF y (by simp [Op.operands, Call.operands]) _ hy
            obtain ⟨h3, _⟩ := irel_c.1 h1
            obtain ⟨h4, _⟩ := irel_c.1 h2
            exact ⟨_, irel_c.2 ⟨rfl, rfl⟩, rfl, fun w' _ => by simp [execOp, hop, resolve, invoke, builtin, h3, h4, Builtin.max_, Builtin.max2]⟩
          · cases h
        · cases h
      case min =>
        split at h
        · rename_i x y hxy
          split at h
          · rename_i k a k2 b hx hy
            cases h
            have ha : args = #[x, y] := by cases args; simp_all
            subst ha
            obtain ⟨h1, _⟩ := hF x (by simp [Op.operands, Call.operands]) _ hx
            obtain ⟨h2, _⟩ := hF y (by simp [Op.operands, Call.operands]) _ hy
            obtain ⟨h3, _⟩ := irel_c.1 h1
            obtain ⟨h4, _⟩ := irel_c.1 h2
            exact ⟨_, irel_c.2 ⟨rfl, rfl⟩, rfl, fun w' _ => by simp [execOp, hop, resolve, invoke, builtin, h3, h4, Builtin.min_, Builtin.min2]⟩
          · cases h
        · cases h
  | _ => rw [hop] at h; simp [qop] at h

end Go.AM

namespace Go.AM
open Go.RowKit

variable {C : Ctx} {env env' : Env} {H H' : List AObj} {I : Nat → Prop} {X X' : Hd} {tmps : Array Value} {w w' : World} {P : Program} {T : TT}

theorem hop_sound (hT : TTok C.P T) (h : Rel C env H I X tmps w) {F : Operand → Option AV} {ρ : Operand → Value} {o : Oper} {v : AV} {obs : List Bool}
    (hF : FOk I w X H.length F ρ o.op.operands.toList) (hh : hop T env H F o.op = some (v, env', H', obs)) (ho : allTrue obs) : HopR C I tmps v env' H' ((execOp ρ o).run C.P w) := by
  cases hop : o.op with
  | alloc t =>
    rw [hop] at hh hF
    simp only [Go.AM.hop] at hh
    split at hh
    · rename_i i hi
      split at hh
      · rename_i hf
        cases hh
        exact hop_alloc hT h hi hf ρ o hop
      · cases hh
    · cases hh
  | box t x =>
    rw [hop] at hh hF
    simp only [Go.AM.hop] at hh
    split at hh
    · rename_i u hu
      split at hh
      · rename_i l hl
        cases hh
        obtain ⟨h1, h2⟩ := hF x (by simp [Op.operands]) _ hu
        exact hop_box hT h ρ h1 h2 hl o hop
      · cases hh
    · cases hh
  | buildSlice t n parts =>
    rw [hop] at hh hF
    simp only [Go.AM.hop] at hh
    split at hh
    · rename_i e _ _ _ ht
      split at hh
      · rename_i ei he
        split at hh
        · rename_i l h1 h2 h3
          split at hh
          · rename_i h4
            cases hh
            exact hop_buildSlice hT h ht he (by simpa [Nat.blt_eq] using h1) (Nat.le_of_ble_eq_true h2) ρ (hF.mono (by intro x hx; show x ∈ ((parts.toList.map (·.2)).toArray).toList; simpa using hx)) h3 (Nat.eq_of_beq_eq_true h4) o hop
          · cases hh
        · cases hh
      · cases hh
    · cases hh
  | makeSlice t l c =>
    rw [hop] at hh hF
    simp only [Go.AM.hop] at hh
    split at hh
    · rename_i e _ _ _ kl a kc b ht hl hc
      split at hh
      · rename_i ei he
        split at hh
        · rename_i h1 h2 h3
          cases hh
          simp only [allTrue, decide_eq_true_eq, and_true] at ho
          obtain ⟨q1, _⟩ := hF l (by simp [Op.operands]) _ hl
          obtain ⟨q2, _⟩ := hF c (by simp [Op.operands]) _ hc
          obtain ⟨q3, _⟩ := irel_c.1 q1
          obtain ⟨q4, _⟩ := irel_c.1 q2
          obtain ⟨p1, rfl, p2, p3⟩ := ho
          exact hop_makeSlice hT h ht he (by simpa [Nat.blt_eq] using h1) h2 p1 p2 p3 ρ q3 q4 o hop
        · cases hh
      · cases hh
    · cases hh
  | store t a x =>
    rw [hop] at hh hF
    simp only [Go.AM.hop] at hh
    split at hh
    · rename_i av vv ha hx
      obtain ⟨q1, q2⟩ := hF a (by simp [Op.operands]) _ ha
      obtain ⟨q3, q4⟩ := hF x (by simp [Op.operands]) _ hx
      unfold hStore at hh
      split at hh
      · rename_i id off
        split at hh
        · rename_i bt cells hid
          split at hh
          · rename_i l hl
            split at hh
            · rename_i hle
              cases hh
              exact hStore_box hT h hid hl (Nat.le_of_ble_eq_true hle) ρ q1 q3 q4 o hop
            · cases hh
          · cases hh
        · cases hh
      · rename_i id s j off
        split at hh
        · rename_i fx et s' n f hid
          split at hh
          · rename_i e ti hs hne hti
            split at hh
            · rename_i hsz hs0
              cases hh
              simp only [allTrue, decide_eq_true_eq, and_true] at ho
              have hs' := Nat.eq_of_beq_eq_true hs
              subst hs'
              exact hStore_arr hT h hid ho hne hti (Nat.eq_of_beq_eq_true hsz) (by simpa [Nat.blt_eq] using hs0) ρ q1 q3 o hop
            · cases hh
          · cases hh
        · cases hh
      · cases hh
    · cases hh
  | makeMap t r =>
    rw [hop] at hh hF
    cases r with
    | some r => simp [Go.AM.hop] at hh
    | none =>
      simp only [Go.AM.hop] at hh
      split at hh
      · rename_i kt et _ _ _ ht
        split at hh
        · rename_i k _ _ _ ei hk he
          split at hh
          · rename_i hf
            cases hh
            exact hop_makeMap (kt := kt) hT h he hf ρ o hop
          · cases hh
        · cases hh
      · cases hh
  | mapUpdate t m k x =>
    rw [hop] at hh hF
    simp only [Go.AM.hop] at hh
    split at hh
    · rename_i kt et' _ _ _ id k' y e ht hm hk hx
      split at hh
      · rename_i k2 _ _ _ k3 et card dom val hkt hid
        split at hh
        · rename_i hkk
          cases hh
          simp only [decide_eq_true_eq] at hkk
          obtain ⟨rfl, rfl⟩ := hkk
          obtain ⟨q1, _⟩ := hF m (by simp [Op.operands]) _ hm
          obtain ⟨q2, _⟩ := hF k (by simp [Op.operands]) _ hk
          obtain ⟨q3, _⟩ := hF x (by simp [Op.operands]) _ hx
          obtain ⟨q4, _⟩ := irel_c.1 q2
          exact hop_mapUpdate hT h ht hkt hid ρ q1 q4 q3 o hop
        · cases hh
      · cases hh
    · cases hh
  | call c =>
    rw [hop] at hh hF
    obtain ⟨callee, args, ts⟩ := c
    cases callee with
    | value f => simp [Go.AM.hop] at hh
    | invoke r m => simp [Go.AM.hop] at hh
    | builtin b =>
      cases b <;> simp only [Go.AM.hop] at hh <;> try (cases hh; done)
      split at hh
      · rename_i x y t t' hargs hts
        split at hh
        · rename_i a b htt ha hb
          have ha' : args = #[x, y] := by cases args; simp_all
          have hta : ts = #[t, t'] := by cases ts; simp_all
          have htt' := Nat.eq_of_beq_eq_true htt
          subst ha' hta htt'
          obtain ⟨q1, q2⟩ := hF x (by simp [Op.operands, Call.operands]) _ ha
          obtain ⟨q3, _⟩ := hF y (by simp [Op.operands, Call.operands]) _ hb
          obtain ⟨z, w', X', hr, h1, h2, h3⟩ := hAppend_sound (ty := o.type) hT h q1 q3 q2 hh ho
          exact ⟨z, w', X', .inl (by simp [execOp, hop, resolve, invoke, builtin, hr]), h1, h2, h3⟩
        · cases hh
      · cases hh
  | _ => rw [hop] at hh; simp [Go.AM.hop] at hh

/-! ### regions -/
theorem constAV_sound {v : Value} {a : AV} (h : constAV v = some a) : arel I w X a v ∧ ∀ p, refs p a = true := by
  unfold constAV at h
  split at h
  · rename_i cs
    split at h
    · rename_i hall
      cases h
      refine ⟨⟨cs.toList, by simp, ?_⟩, fun _ => rfl⟩
      have : ∀ (l : List Value), l.all Value.oneCell' = true → crelAll I w (l.map .c) l := by
        intro l
        induction l with
        | nil => intro _; rfl
        | cons v l ih => intro h; simp only [List.all_cons, Bool.and_eq_true] at h; exact ⟨v, l, rfl, ⟨rfl, h.1⟩, ih h.2⟩
      exact this _ hall
    · cases h
  · cases h
  · rename_i f first caps
    split at h
    · rename_i h1 h2
      cases h
      have e1 : first = #[] := by cases first; simp_all
      have e2 : caps = #[] := by cases caps; simp_all
      subst e1 e2
      exact ⟨⟨[], rfl, rfl⟩, fun _ => rfl⟩
    · cases h
  · cases h
  · rename_i hagg htup hf1 hf2
    cases h
    refine ⟨irel_c.2 ⟨rfl, ?_⟩, fun _ => rfl⟩
    cases v <;> first | rfl | (exact (hagg _ rfl).elim) | (exact (htup _ rfl).elim)

/-- what is known of an operand: `ok` says when -/
theorem opd_sound {a : Act} (h : Rel C env H I X a.tmps w) {x : Operand} {v : AV} (hx : opd env x = some v) : ∃ g : Bool, (g = true → arel I w X v (a.eval x)) ∧ refs (below H.length) v = true ∧
    (∀ q, opdOb env none x = q → allTrue q → g = true) ∧ (∀ b q, opdOb env (some b) x = q → allTrue q → b = true → g = true) := by
  unfold opd at hx
  split at hx
  · obtain ⟨h1, h2⟩ := constAV_sound (I := I) (w := w) (X := X) hx
    exact ⟨true, fun _ => h1, h2 _, fun _ _ _ => rfl, fun _ _ _ _ _ => rfl⟩
  · cases hx
    exact ⟨true, fun _ => ⟨[], rfl, rfl⟩, rfl, fun _ _ _ => rfl, fun _ _ _ _ _ => rfl⟩
  · rename_i t
    split at hx
    · rename_i b u hg
      cases hx
      obtain ⟨h1, h2, h3⟩ := h.env t _ hg
      refine ⟨b, h3.1, h2, fun q hq hall => ?_, fun b' q hq hall hb => ?_⟩
      · simp only [opdOb, hg] at hq; subst hq; exact hall.1
      · simp only [opdOb, hg] at hq; subst hq
        have := hall.1
        rw [hb] at this; simpa using this
    · cases hx
    · rename_i u hn1 hn2 hg
      cases hx
      obtain ⟨h1, h2, h3⟩ := h.env t _ hg
      exact ⟨true, fun _ => h3, h2, fun _ _ _ => rfl, fun _ _ _ _ _ => rfl⟩
    · cases hx
  · cases hx

/-- whether an operation is wanted -/
def guardOf (all : List Oper) (env : Env) (o : Oper) : Option (Option Bool) :=
  match o.guard with
  | none => some none
  | some (j, want) => match all[j]? with
    | some oj => match oj.dst with
      | some d => match get env d with
        | some (.i (.c (.bool b))) => match want with | true => some (some b) | false => some (some (!b))
        | some (.opt g (.i (.c (.bool b)))) => match want with | true => some (some (g && b)) | false => some (some (g && !b))
        | _ => none
      | none => none
    | none => none

theorem guardOf_sound {a : Act} (h : Rel C env H I X a.tmps w) {all : List Oper} {o : Oper} : (guardOf all env o = some none → Region.wanted o (yielded all.toArray a.tmps) = true) ∧
    ∀ g, guardOf all env o = some (some g) → Region.wanted o (yielded all.toArray a.tmps) = g := by
  unfold guardOf Region.wanted
  cases hg : o.guard with
  | none => exact ⟨fun _ => rfl, fun g h => by simp at h⟩
  | some p =>
    obtain ⟨j, want⟩ := p
    simp only
    cases hj : all[j]? with
    | none => simp
    | some oj =>
      simp only
      cases hd : oj.dst with
      | none => simp
      | some d =>
        simp only
        have hy : yielded all.toArray a.tmps j = match a.tmps[d]? with | some (.bool b) => some b | _ => none := by
          simp [yielded, hj, hd]
          rfl
        cases hge : get env d with
        | none => simp
        | some u =>
          obtain ⟨h1, h2, h3⟩ := h.env d u hge
          have hdv : a.tmps[d]? = some (a.tmps.getD d undef) := by
            have : d < a.tmps.size := by rw [h.size]; exact h1
            simp [this]
          constructor
          · intro hx
            repeat' split at hx
            all_goals cases hx
          · intro g hx
            split at hx
            · rename_i b hu
              cases hu
              obtain ⟨h4, _⟩ := irel_c.1 h3
              rw [hy, hdv, h4]
              cases want <;> simp at hx ⊢ <;> rw [← hx] <;> cases b <;> rfl
            · rename_i g' b hu
              cases hu
              cases g' with
              | true =>
                obtain ⟨h4, _⟩ := irel_c.1 (h3.1 rfl)
                rw [hy, hdv, h4]
                cases want <;> simp at hx ⊢ <;> rw [← hx] <;> cases b <;> rfl
              | false =>
                have h4 := h3.2 rfl
                rw [hy, hdv, h4]
                cases want <;> simp at hx ⊢ <;> rw [hx] <;> rfl
            · cases hx

end Go.AM

namespace Go.AM
open Go.RowKit

variable {C : Ctx} {env env' : Env} {H H' : List AObj} {I : Nat → Prop} {X X' : Hd} {tmps : Array Value} {w w' : World} {P : Program} {T : TT}

def dput (N : Nat) (d : Option Tmp) (v : AV) (env : Env) : Option Env := match d with
  | none => some env
  | some k => match Nat.blt k N with
    | true => some ((k, v) :: env)
    | false => none

def gAnd (g : Option Bool) (t : Bool) : Option Bool := match g with
  | none => some t
  | some b => some (b && t)

def wrapG (g : Option Bool) (v : AV) : AV := match g with
  | none => v
  | some b => .opt b v

def guardObs (g : Option Bool) (obs : List Bool) : List Bool := match g with
  | none => obs
  | some b => obs.map fun x => !b || x

def opdObs (env : Env) (g : Option Bool) : List Operand → List Bool
  | [] => []
  | x :: r => opdOb env g x ++ opdObs env g r

def isEff : Op → Bool
  | .alloc _ | .box .. | .buildSlice .. | .makeSlice .. | .store .. | .makeMap .. | .mapUpdate .. => true
  | .call ⟨.builtin .append, _, _⟩ => true
  | _ => false

def isCall : Op → Bool
  | .call ⟨.value _, _, _⟩ => true
  | _ => false

def astep (nw : Bool) (T : TT) (N : Nat) (all : List Oper) (env : Env) (H : List AObj) (o : Oper) : Option (Env × List AObj × List Bool) :=
  match guardOf all env o with
  | none => none
  | some g => match o.op with
    | .pick c a b => match opd env c, opd env a, opd env b with
      | some (.i (.c (.bool t))), some (.i (.c (.bool x))), some (.i (.c (.bool y))) =>
        match dput N o.dst (wrapG g (.i (.c (.bool (cond t x y))))) env with
        | some env' => some (env', H, opdOb env g c ++ (opdOb env (gAnd g t) a ++ opdOb env (gAnd g (!t)) b))
        | none => none
      | _, _, _ => none
    | op => match isEff op with
      | false => match qop nw T H (opd env) op with
        | some (v, obs) => match dput N o.dst (wrapG g v) env with
          | some env' => some (env', H, opdObs env g op.operands.toList ++ guardObs g obs)
          | none => none
        | none => none
      | true => match g with
        | none => match hop T env H (opd env) op with
          | some (v, env1, H', obs) => match dput N o.dst v env1 with
            | some env' => some (env', H', opdObs env none op.operands.toList ++ obs)
            | none => none
          | none => none
        | some _ => none

def aops (nw : Bool) (T : TT) (N : Nat) (all : List Oper) : List Oper → Env → List AObj → List Bool → Option (Env × List AObj × List Bool × List Oper)
  | [], env, H, obs => some (env, H, obs, [])
  | o :: r, env, H, obs => match isCall o.op with
    | true => some (env, H, obs, o :: r)
    | false => match astep nw T N all env H o with
      | some (env', H', obs') => aops nw T N all r env' H' (obs' ++ obs)
      | none => none

theorem allTrue_opdObs {g : Option Bool} : ∀ {l : List Operand}, allTrue (opdObs env g l) → ∀ x ∈ l, allTrue (opdOb env g x)
  | [], _, x, hx => by simp at hx
  | y :: l, h, x, hx => by
    rw [opdObs, allTrue_append] at h
    simp only [List.mem_cons] at hx
    rcases hx with rfl | hx
    · exact h.1
    · exact allTrue_opdObs h.2 x hx

theorem fok_of_obs {a : Act} (h : Rel C env H I X a.tmps w) {g : Option Bool} (hg : ∀ b, g = some b → b = true) {l : List Operand} (ho : allTrue (opdObs env g l)) : FOk I w X H.length (opd env) a.eval l := by
  intro x hx v hv
  obtain ⟨b, h1, h2, h3, h4⟩ := opd_sound h hv
  have hox := allTrue_opdObs ho x hx
  refine ⟨h1 ?_, h2⟩
  cases g with
  | none => exact h3 _ rfl hox
  | some b' => exact h4 b' _ rfl hox (hg b' rfl)

theorem allTrue_guard {b : Bool} (hb : b = true) : ∀ {obs : List Bool}, allTrue (guardObs (some b) obs) → allTrue obs
  | [], _ => trivial
  | x :: r, h => ⟨by have := h.1; rw [hb] at this; simpa using this, allTrue_guard hb h.2⟩

theorem refs_wrap {p : Nat → Option Nat → Bool} {g : Option Bool} {v : AV} (h : refs p v = true) : refs p (wrapG g v) = true := by
  cases g <;> exact h

theorem rel_undef (b : Bool) (hb : b = false) (v : AV) : arel I w X (.opt b v) undef := ⟨fun h => (by rw [hb] at h; cases h), fun _ => rfl⟩
theorem rel_wrap {g : Option Bool} (hg : ∀ b, g = some b → b = true) {v : AV} {x : Value} (h : arel I w X v x) : arel I w X (wrapG g v) x := by
  cases g with
  | none => exact h
  | some b => exact ⟨fun _ => h, fun hb => (by rw [hg b rfl] at hb; cases hb)⟩

def setT (d : Option Tmp) (x : Value) (tmps : Array Value) : Array Value := match d with
  | some k => tmps.setIfInBounds k x
  | none => tmps

theorem dput_rel {tmps : Array Value} (h : Rel C env H I X tmps w) {d : Option Tmp} {v : AV} {x : Value} (hv : arel I w X v x) (hr : refs (below H.length) v = true) (hd : dput C.N d v env = some env') :
    Rel C env' H I X (setT d x tmps) w := by
  cases d with
  | none => simp only [dput, Option.some.injEq] at hd; subst hd; exact h
  | some k =>
    simp only [dput] at hd
    split at hd
    · rename_i hk
      cases hd
      have hk' : k < C.N := by simpa [Nat.blt_eq] using hk
      exact h.put hk' hr hv
    · cases hd

theorem put_tmps (a : Act) (d : Option Tmp) (x : Value) : (a.put d x).tmps = setT d x a.tmps ∧ (a.put d x).defers = a.defers := by
  cases d <;> exact ⟨rfl, rfl⟩

/-! ### the references of a quiet operation's value -/
def ROk (len : Nat) (F : Operand → Option AV) (l : List Operand) : Prop := ∀ x ∈ l, ∀ v, F x = some v → refs (below len) v = true

theorem fetchAll_refs {len : Nat} {F : Operand → Option AV} : ∀ {l : List Operand} {vs : List AV}, ROk len F l → fetchAll F l = some vs → refsAll (below len) vs = true
  | [], vs, _, h => by simp only [fetchAll, Option.some.injEq] at h; subst h; rfl
  | x :: l, vs, hF, h => by
    simp only [fetchAll] at h
    split at h
    · rename_i v r hv hr
      cases h
      exact refsAll_cons.2 ⟨hF x (by simp) v hv, fetchAll_refs (fun y hy => hF y (by simp [hy])) hr⟩
    · cases h

theorem fillParts_refs {len : Nat} {F : Operand → Option AV} {fs : List (Nat × TypeId)} : ∀ {parts : List (Nat × Operand)} {cells out : List AV}, ROk len F (parts.map (·.2)) → fillParts T fs F parts cells = some out → refsAll (below len) cells = true → refsAll (below len) out = true
  | [], cells, out, _, h, hc => by simp only [fillParts, Option.some.injEq] at h; subst h; exact hc
  | (i, x) :: r, cells, out, hF, h, hc => by
    simp only [fillParts] at h
    split at h
    · rename_i o ft v hfs hv
      split at h
      · exact fillParts_refs (fun y hy => hF y (by simp only [List.map_cons, List.mem_cons]; exact .inr hy)) h (refsAll_set hc (hF x (by simp) v hv) o)
      · cases h
    · cases h

theorem zeros_refs (p : Nat → Option Nat → Bool) (z : List Value) : refsAll p (z.map fun v => AV.i (.c v)) = true := by
  induction z with
  | nil => rfl
  | cons v z ih => exact refsAll_cons.2 ⟨rfl, ih⟩

theorem qLoad_refs (hok : HOk P I w X H) {t : TypeId} {a : AV} {v : AV} {obs : List Bool} (hr : refs (below H.length) a = true) (h : qLoad T H t a = some (v, obs)) : refs (below H.length) v = true := by
  have hbox : ∀ (id : Nat) (t : TypeId) (cells : List AV), H[id]? = some (AObj.box t cells) → refsAll (below H.length) cells = true := fun id t cells hid => by
    obtain ⟨_, _, _, _, _, _, h5⟩ := hok.obj _ _ hid
    exact h5
  unfold qLoad at h
  repeat' split at h
  all_goals first
    | (cases h; done)
    | (cases h; rfl)
    | (cases h; exact hr)
    | (cases h; exact mkAgg_refs (refsAll_take (refsAll_drop (hbox _ _ _ (by assumption)) _) _))
    | (cases h; exact refsAll_get (hbox _ _ _ (by assumption)) (by assumption))

theorem qop_refs (hok : HOk P I w X H) {nw : Bool} {F : Operand → Option AV} {op : Op} {v : AV} {obs : List Bool} (hF : ROk H.length F op.operands.toList) (h : qop nw T H F op = some (v, obs)) : refs (below H.length) v = true := by
  cases op with
  | move x => simp only [qop] at h; split at h <;> cases h; exact hF x (by simp [Op.operands]) _ (by assumption)
  | assign x => simp only [qop] at h; split at h <;> cases h; exact hF x (by simp [Op.operands]) _ (by assumption)
  | binOp op t x y t2 => simp only [qop] at h; repeat' split at h
                         all_goals first | (cases h; done) | (cases h; rfl)
  | unOp op t x => simp only [qop] at h; repeat' split at h
                   all_goals first | (cases h; done) | (cases h; rfl)
  | convert s d x => simp only [qop] at h; repeat' split at h
                     all_goals first | (cases h; done) | exact qConvert_refs h
  | field s x f =>
    simp only [qop] at h
    split at h
    · rename_i a ha
      split at h
      · rename_i u hu
        cases h
        unfold qField at hu
        split at hu
        · exact getI_refs (hF x (by simp [Op.operands]) _ ha) hu
        · cases hu
      · cases h
    · cases h
  | fieldAddr s x f =>
    simp only [qop] at h
    split at h
    · rename_i a ha
      split at h
      · rename_i u hu
        cases h
        exact qFieldAddr_refs (hF x (by simp [Op.operands]) _ ha) hu
      · cases h
    · cases h
  | indexAddr t x i => simp only [qop] at h; split at h <;> first | (cases h; done) | exact qIndexAddr_refs (hF x (by simp [Op.operands]) _ (by assumption)) h
  | index t x i => simp only [qop] at h; split at h <;> first | (cases h; done) | exact qIndex_refs h
  | load t a => simp only [qop] at h; split at h <;> first | (cases h; done) | exact qLoad_refs hok (hF a (by simp [Op.operands]) _ (by assumption)) h
  | slice t x lo hi mx => simp only [qop] at h; split at h <;> first | (cases h; done) | exact qSlice_refs h
  | lookup t m x ok => simp only [qop] at h; split at h <;> first | (cases h; done) | exact qLookup_refs h
  | makeFunc fn first captured =>
    cases fn with
    | func f =>
      simp only [qop] at h
      split at h
      · rename_i l hfirst hl
        cases h
        have h2 := fetchAll_refs (fun x hx => hF x (by show x ∈ (first ++ captured).toList; rw [Array.toList_append]; exact List.mem_append_right _ hx)) hl
        unfold mkClo
        split
        · rfl
        · exact h2
      · cases h
    | method _ => simp [qop] at h
    | methodOf _ _ => simp [qop] at h
    | via _ _ _ _ => simp [qop] at h
    | yield _ => simp [qop] at h
  | extract x i =>
    simp only [qop] at h
    split at h
    · rename_i l hl
      have h2 := hF x (by simp [Op.operands]) _ hl
      split at h
      · cases h
      · rename_i hne u hu; cases h; exact refsAll_get h2 hu
      · cases h
    · cases h
  | nilCheck x =>
    simp only [qop] at h
    split at h
    all_goals first | (cases h; done) | (cases h; exact hF x (by simp [Op.operands]) _ (by assumption))
  | build t parts =>
    simp only [qop] at h
    split at h
    · rename_i u hu
      cases h
      unfold qBuild at hu
      split at hu
      · split at hu
        · rename_i cells hc
          split at hu
          · cases hu
            exact mkAgg_refs (fillParts_refs (fun x hx => hF x (by show x ∈ ((parts.toList.map (·.2)).toArray).toList; simpa using hx)) hc (zeros_refs _ _))
          · cases hu
        · cases hu
      · cases hu
    · cases h
  | call c =>
    obtain ⟨callee, args, ts⟩ := c
    cases callee with
    | value f => simp [qop] at h
    | invoke r m => simp [qop] at h
    | builtin b =>
      cases b <;> simp only [qop] at h <;> try (cases h; done)
      case len =>
        repeat' split at h
        all_goals first | (cases h; done) | exact qLen_refs h
      all_goals
        repeat' split at h
        all_goals first | (cases h; done) | (cases h; rfl)
  | _ => simp [qop] at h

theorem astep_sound (hT : TTok C.P T) {a : Act} (hd : a.defers = []) (h : Rel C env H I X a.tmps w) {nw : Bool} {all : List Oper} {o : Oper} {obs : List Bool} (hs : astep nw T C.N all env H o = some (env', H', obs)) (ho : allTrue obs)
    {K : Act → World → Prop} {Q : Exit → Act → World → Prop} (hK : ∀ a' w', St C env' H' a' w' → K a' w') :
    if Region.wanted o (yielded all.toArray a.tmps) then o.wp C.P a w K Q ∨ (o.asks C.P a w ∧ LetsOut Q) else K (a.put o.dst undef) w := by
  unfold astep at hs
  split at hs
  · cases hs
  rename_i g hg
  obtain ⟨hw1, hw2⟩ := guardOf_sound h (all := all) (o := o)
  -- the two ways: wanted, or not
  have ways : (Region.wanted o (yielded all.toArray a.tmps) = true ∧ ∀ b, g = some b → b = true) ∨ (Region.wanted o (yielded all.toArray a.tmps) = false ∧ ∃ b, g = some b ∧ b = false) := by
    cases g with
    | none => exact .inl ⟨hw1 hg, fun b hb => by cases hb⟩
    | some b =>
      have := hw2 b hg
      cases b with
      | true => exact .inl ⟨this, fun b hb => by cases hb; rfl⟩
      | false => exact .inr ⟨this, false, rfl, rfl⟩
  have fin : ∀ {v : AV} {x : Value} {env1 : Env} {H1 : List AObj} {X1 : Hd} {w1 : World}, Rel C env1 H1 I X1 a.tmps w1 → arel I w1 X1 v x → refs (below H1.length) v = true → dput C.N o.dst v env1 = some env' → H1 = H' → K (a.put o.dst x) w1 := by
    intro v x env1 H1 X1 w1 h1 h2 h3 h4 h5
    subst h5
    refine hK _ _ ⟨by rw [(put_tmps a o.dst x).2]; exact hd, I, X1, ?_⟩
    rw [(put_tmps a o.dst x).1]
    exact dput_rel h1 h2 h3 h4
  split at hs
  · rename_i c x y hop
    split at hs
    rotate_left
    · cases hs
    rename_i t bx byy hc hx hy
    split at hs
    rotate_left
    · cases hs
    rename_i env1 hput
    cases hs
    rw [allTrue_append, allTrue_append] at ho
    rcases ways with ⟨hw, hgt⟩ | ⟨hw, b, rfl, rfl⟩
    · rw [if_pos hw]
      refine .inl ?_
      obtain ⟨b1, p1, _, p3, p4⟩ := opd_sound h hc
      obtain ⟨b2, q1, _, q3, q4⟩ := opd_sound h hx
      obtain ⟨b3, r1, _, r3, r4⟩ := opd_sound h hy
      have hb1 : b1 = true := by
        cases g with
        | none => exact p3 _ rfl ho.1
        | some b => exact p4 b _ rfl ho.1 (hgt b rfl)
      have hct : a.eval c = .bool t := (irel_c.1 (p1 hb1)).1
      unfold Oper.wp
      have hrun : (execOp a.eval o).run C.P w = .ok (.value (if t then a.eval x else a.eval y)) w := by
        simp [execOp, hop, hct, asBool]
      rw [hrun]
      have hval : (if t then a.eval x else a.eval y) = .bool (cond t bx byy) := by
        cases t with
        | true =>
          have hb2 : b2 = true := by
            cases g with
            | none => exact q4 true _ rfl ho.2.1 rfl
            | some b => exact q4 (b && true) _ rfl ho.2.1 (by rw [hgt b rfl]; rfl)
          simpa using (irel_c.1 (q1 hb2)).1
        | false =>
          have hb3 : b3 = true := by
            cases g with
            | none => exact r4 true _ rfl ho.2.2 rfl
            | some b => exact r4 (b && true) _ rfl ho.2.2 (by rw [hgt b rfl]; rfl)
          simpa using (irel_c.1 (r1 hb3)).1
      rw [hval]
      exact fin (v := wrapG g (.i (.c (.bool (cond t bx byy))))) h (rel_wrap hgt (irel_c.2 ⟨rfl, rfl⟩)) (refs_wrap rfl) hput rfl
    · rw [if_neg (by rw [hw]; simp)]
      exact fin h (rel_undef false rfl _) rfl hput rfl
  · split at hs
    · split at hs
      rotate_left
      · cases hs
      rename_i v obs' hq
      split at hs
      rotate_left
      · cases hs
      rename_i env1 hput
      cases hs
      rw [allTrue_append] at ho
      rcases ways with ⟨hw, hgt⟩ | ⟨hw, b, rfl, rfl⟩
      · rw [if_pos hw]
        refine .inl ?_
        obtain ⟨z, h1, h2, h3⟩ := qop_sound (ρ := a.eval) hT h (fok_of_obs h hgt ho.1) hq (by
          cases g with
          | none => exact ho.2
          | some b => exact allTrue_guard (hgt b rfl) ho.2)
        unfold Oper.wp
        rw [h3 w (Same.refl w)]
        exact fin h (rel_wrap hgt h1) (refs_wrap h2) hput rfl
      · rw [if_neg (by rw [hw]; simp)]
        have hr : refs (below H.length) (wrapG (some false) v) = true := by
          refine refs_wrap (qop_refs h.hok (fun x hx u hu => ?_) hq)
          obtain ⟨_, _, h2, _⟩ := opd_sound h hu
          exact h2
        exact fin h (rel_undef false rfl _) hr hput rfl
    · split at hs
      · split at hs
        rotate_left
        · cases hs
        rename_i v env1 H1 obs' hh
        split at hs
        rotate_left
        · cases hs
        rename_i env2 hput
        cases hs
        rw [allTrue_append] at ho
        rcases ways with ⟨hw, hgt⟩ | ⟨hw, b, hb, _⟩
        · rw [if_pos hw]
          refine .inl ?_
          obtain ⟨z, w', X', hz, h1, h2, h3⟩ := hop_sound (ρ := a.eval) hT h (fok_of_obs h hgt ho.1) hh ho.2
          unfold Oper.wp
          rcases hz with hz | ⟨hz, rfl⟩ <;> rw [hz] <;> exact fin h3 h1 h2 hput rfl
        · cases hb
      · cases hs

end Go.AM

