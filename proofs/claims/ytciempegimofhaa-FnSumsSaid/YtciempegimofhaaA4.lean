/- Contracts of functions of the program, for the claims of this seat. -/
import Derived.Test.YtciempegimofhaaA3
set_option linter.unusedSectionVars false
set_option linter.unusedSimpArgs false
set_option linter.unusedVariables false
set_option linter.unnecessarySimpa false
namespace Go.AMA
open Go.AM
section
variable {α : Type} [Inhabited α] {l out : List α} {x : Int} {q : α → Bool}
theorem filter_hit (h0 : 0 ≤ x) (h1 : x < l.length) (h3 : out = (l.take x.toNat).filter q) (h : q (l.getD x.toNat default) = true) : out ++ [l.getD x.toNat default] = (l.take (x + 1).toNat).filter q := by
  rw [take_succ h0 h1, List.filter_append, ← h3]; simp only [List.filter_cons, h, List.filter_nil]; rfl
theorem filter_miss (h0 : 0 ≤ x) (h1 : x < l.length) (h3 : out = (l.take x.toNat).filter q) (h : q (l.getD x.toNat default) = false) : out = (l.take (x + 1).toNat).filter q := by
  rw [take_succ h0 h1, List.filter_append, ← h3]; simp only [List.filter_cons, h, List.filter_nil]; simp
theorem filter_end (h1 : ¬ x < l.length) (h3 : out = (l.take x.toNat).filter q) : out = l.filter q := by rwa [take_all h1] at h3
theorem mem_take (h0 : 0 ≤ x) (h1 : x < l.length) : l.getD x.toNat default ∈ l := by
  have hx : x.toNat < l.length := by omega
  simp only [List.getD, List.getElem?_eq_getElem hx]; exact List.getElem_mem hx
end
def vprod (p : Int × Int) : Int := IntKind.wrap .i64 (p.1 * p.2)
def vsum (p : Int × Int) : Int := IntKind.wrap .i64 (p.1 + p.2)
def uqq (v : Int × Int → Int) (p x : Int × Int) : Bool := !pe x p && v x == v p
def uq (v : Int × Int → Int) (l : List (Int × Int)) (p : Int × Int) : Bool := !(l.any (uqq v p)) && has l p
theorem uq_i (v : Int × Int → Int) (p x : Int × Int) : (bif !(x.1 == p.1 && (x.2 == p.2 && true)) then v x == v p else false) = uqq v p x := by
  unfold uqq pe; cases (x.1 == p.1) <;> cases (x.2 == p.2) <;> cases (v x == v p) <;> rfl
theorem uq_s (v : Int × Int → Int) (p x : Int × Int) : (bif v x == v p then !(x.1 == p.1 && (x.2 == p.2 && true)) else false) = uqq v p x := by
  unfold uqq pe; cases (x.1 == p.1) <;> cases (x.2 == p.2) <;> cases (v x == v p) <;> rfl
theorem uq_hit {v : Int × Int → Int} {l : List (Int × Int)} {p : Int × Int} {x : Int} (h0 : 0 ≤ x) (h1 : x < l.length) (h : uqq v p (l.getD x.toNat default) = true) : uq v l p = false := by
  unfold uq; rw [any_hit _ h0 h1 h]; rfl
theorem uq_end {v : Int × Int → Int} {l : List (Int × Int)} {p : Int × Int} {x : Int} (h1 : ¬ x < l.length) (h : (l.take x.toNat).any (uqq v p) = false) : uq v l p = has l p := by
  unfold uq; rw [any_end h1 h]; rfl
def VFn (v : Int × Int → Int) (fv : FuncId) : Prop := ∀ q, AFn P fv [cpair q] (.i (ci (v q))) []

/-! the maps of unique -/
structure UI (v : Int × Int → Int) (t : List (Int × Int)) (d : Int → Bool) (f : Int → Int × Int) (g : Int → Int) : Prop where
  dom : ∀ y, d y = t.any (fun a => v a == y)
  fst : ∀ y, d y = true → f y ∈ t ∧ v (f y) = y
  one : ∀ y, g y = 0 → ∀ a, a ∈ t → v a = y → a = f y
  two : ∀ y, g y ≠ 0 → ∃ a b, a ∈ t ∧ b ∈ t ∧ v a = y ∧ v b = y ∧ a ≠ b
theorem UI.nil {v : Int × Int → Int} : UI v [] (fun _ => false) (fun _ => default) (fun _ => 0) := ⟨fun _ => rfl, fun _ h => (by cases h), fun _ _ a h => (by cases h), fun _ h => (h rfl).elim⟩
theorem UI.hit {v : Int × Int → Int} {t : List (Int × Int)} {d : Int → Bool} {f : Int → Int × Int} {g : Int → Int} (h : UI v t d f g) (p : Int × Int) (hd : d (v p) = true) (hp : f (v p) ≠ p) :
    UI v (t ++ [p]) (fun z => z == v p || d z) (fun z => if z = v p then p else f z) (fun z => if z = v p then 1 else g z) := by
  refine ⟨fun y => ?_, fun y hy => ?_, fun y hy a ha hv => ?_, fun y hy => ?_⟩
  · rw [List.any_append, h.dom y]; simp [Bool.or_comm, eq_comm, BEq.comm]
  · by_cases e : y = v p
    · subst e; simp
    · have : d y = true := by simpa [e] using hy
      obtain ⟨h1, h2⟩ := h.fst y this
      simp only [e, if_false]; exact ⟨List.mem_append_left _ h1, h2⟩
  · have hy' : (if y = v p then (1 : Int) else g y) = 0 := hy
    split at hy'
    · cases hy'
    · rename_i e
      show a = if y = v p then p else f y
      rw [if_neg e]
      rcases List.mem_append.1 ha with h1 | h1
      · exact h.one y hy' a h1 hv
      · simp at h1; subst h1; exact (e hv.symm).elim
  · by_cases e : y = v p
    · subst e
      obtain ⟨h1, h2⟩ := h.fst _ hd
      exact ⟨f (v p), p, List.mem_append_left _ h1, by simp, h2, rfl, hp⟩
    · have : g y ≠ 0 := by simpa [e] using hy
      obtain ⟨a, b, h1, h2, h3⟩ := h.two y this
      exact ⟨a, b, List.mem_append_left _ h1, List.mem_append_left _ h2, h3⟩
theorem UI.miss {v : Int × Int → Int} {t : List (Int × Int)} {d : Int → Bool} {f : Int → Int × Int} {g : Int → Int} (h : UI v t d f g) (p : Int × Int) (hd : d (v p) = true → f (v p) = p) :
    UI v (t ++ [p]) (fun z => z == v p || d z) (fun z => if z = v p then p else f z) g := by
  refine ⟨fun y => ?_, fun y hy => ?_, fun y hy a ha hv => ?_, fun y hy => ?_⟩
  · rw [List.any_append, h.dom y]; simp [Bool.or_comm, eq_comm, BEq.comm]
  · by_cases e : y = v p
    · subst e; simp
    · have : d y = true := by simpa [e] using hy
      obtain ⟨h1, h2⟩ := h.fst y this
      simp only [e, if_false]; exact ⟨List.mem_append_left _ h1, h2⟩
  · show a = if y = v p then p else f y
    by_cases e : y = v p
    · rw [if_pos e]
      rcases List.mem_append.1 ha with h1 | h1
      · have h2 := h.one y hy a h1 hv
        have hdd : d (v p) = true := by rw [h.dom]; exact List.any_eq_true.2 ⟨a, h1, by simp [hv, e]⟩
        rw [h2, e, hd hdd]
      · simpa using h1
    · rw [if_neg e]
      rcases List.mem_append.1 ha with h1 | h1
      · exact h.one y hy a h1 hv
      · simp at h1; subst h1; exact (e hv.symm).elim
  · obtain ⟨a, b, h1, h2, h3⟩ := h.two y hy
    exact ⟨a, b, List.mem_append_left _ h1, List.mem_append_left _ h2, h3⟩
theorem has_of_mem {l : List (Int × Int)} {p : Int × Int} (h : p ∈ l) : has l p = true := List.any_eq_true.2 ⟨p, h, pe_iff.2 rfl⟩
theorem UI.end {v : Int × Int → Int} {l : List (Int × Int)} {d : Int → Bool} {f : Int → Int × Int} {g : Int → Int} (h : UI v l d f g) {p : Int × Int} (hp : p ∈ l) : (g (v p) == 0) = uq v l p := by
  unfold uq
  rw [has_of_mem hp, Bool.and_true]
  by_cases hg : g (v p) = 0
  · have : l.any (uqq v p) = false := by
      rw [List.any_eq_false]
      intro a ha hq
      simp only [uqq, Bool.and_eq_true, Bool.not_eq_true', beq_iff_eq] at hq
      have h1 := h.one _ hg a ha hq.2
      have h2 := h.one _ hg p hp rfl
      have : pe a p = true := pe_iff.2 (h1.trans h2.symm)
      rw [hq.1] at this; cases this
    rw [this]; simp [hg]
  · obtain ⟨a, b, h1, h2, h3, h4, h5⟩ := h.two _ hg
    have key : ∀ c, c ∈ l → v c = v p → c ≠ p → l.any (uqq v p) = true := by
      intro c hc hv hn
      refine List.any_eq_true.2 ⟨c, hc, ?_⟩
      simp only [uqq, Bool.and_eq_true, Bool.not_eq_true', beq_iff_eq]
      refine ⟨?_, hv⟩
      cases hh : pe c p with
      | false => rfl
      | true => exact (hn (pe_iff.1 hh)).elim
    have : l.any (uqq v p) = true := by
      by_cases hap : a = p
      · exact key b h2 h4 (fun e => h5 (hap.trans e.symm))
      · exact key a h1 h3 hap
    rw [this]; simp [hg]
theorem met_hit {b : Bool} {x p : Int × Int} (h : (bif b then !(x.1 == p.1 && (x.2 == p.2 && true)) else false) = true) : b = true ∧ x ≠ p := by
  cases b with
  | false => cases h
  | true => exact ⟨rfl, fun e => by subst e; simp at h⟩
theorem met_miss {b : Bool} {x p : Int × Int} (h : (bif b then !(x.1 == p.1 && (x.2 == p.2 && true)) else false) = false) (hb : b = true) : x = p := by
  subst hb
  have : pe x p = true := by simpa [pe] using h
  exact pe_iff.1 this
/-- a map's object -/
abbrev mP (c : Nat) (d : Int → Bool) (f : Int → Int × Int) : AObj := .map .i64 25 c d (fun y => cpair (f y))
abbrev mI (c : Nat) (d : Int → Bool) (g : Int → Int) : AObj := .map .i64 3 c d (fun y => ci (g y))
theorem objEq_mapP {c : Nat} {d : Int → Bool} {y : Int} {e : Int × Int} {f : Int → Int × Int} :
    objEq (.map .i64 25 c d (fun z => if z = y then cpair e else (fun y => cpair (f y)) z)) (mP c d (fun z => if z = y then e else f z)) :=
  ⟨rfl, rfl, rfl, fun z => ⟨rfl, by show (if z = y then cpair e else cpair (f z)) = cpair (if z = y then e else f z); split <;> rfl⟩⟩
theorem objEq_mapI {c : Nat} {d : Int → Bool} {y : Int} {e : Int} {f : Int → Int} :
    objEq (.map .i64 3 c d (fun z => if z = y then ci e else (fun y => ci (f y)) z)) (mI c d (fun z => if z = y then e else f z)) :=
  ⟨rfl, rfl, rfl, fun z => ⟨rfl, by show (if z = y then ci e else ci (f z)) = ci (if z = y then e else f z); split <;> rfl⟩⟩
theorem filter_len {l : List (Int × Int)} {q : Int × Int → Bool} (hl : l.length ≤ 1048576) : (l.filter q).length ≤ 1048576 := Nat.le_trans (List.length_filter_le _ _) hl


set_option maxRecDepth 20000 in
theorem product_fn (p : Int × Int) : AFn P 94 [cpair p] (.i (ci (vprod p))) [] := by
  refine AFn.of_body Tok 8 Go.Proofs.Try.func94 rfl rfl rfl (by simp) rfl ?_
  rintro ⟨_, _, w0, I0, O0, X0, fx⟩ rfl rfl hT hfx
  refine AWp.seq ?_
  refine AWp.region ?_
  refine AOps.run hT false rfl ?_ ?_
  · repeat' (first | exact trivial | exact Bool.not_or_self _ | refine And.intro ?_ ?_ | (simp; done) | (simp_all; done) | (simp [inR_i64] at *; omega))
  refine AOps.nil ?_
  repeat (with_reducible first | refine thenNil ?_ | refine blockNil ?_)
  refine AWp.seq ?_
  refine AWp.region ?_
  refine AOps.run hT false rfl ?_ ?_
  · repeat' (first | exact trivial | exact Bool.not_or_self _ | refine And.intro ?_ ?_ | (simp; done) | (simp_all; done) | (simp [inR_i64] at *; omega))
  refine AOps.nil ?_
  repeat (with_reducible first | refine thenNil ?_ | refine blockNil ?_)
  refine AWp.ret ?_
  repeat (with_reducible first | refine thenRet ?_ | refine blockRet ?_)
  refine EndsIn.ret rfl ?_ ?_
  · repeat' (first | exact trivial | exact Bool.not_or_self _ | refine And.intro ?_ ?_ | (simp; done) | (simp_all; done) | (simp [inR_i64] at *; omega))
  refine ⟨[], ?_, rfl, rfl, rfl⟩
  rfl

set_option maxRecDepth 20000 in
theorem sum_fn (p : Int × Int) : AFn P 95 [cpair p] (.i (ci (vsum p))) [] := by
  refine AFn.of_body Tok 8 Go.Proofs.Try.func95 rfl rfl rfl (by simp) rfl ?_
  rintro ⟨_, _, w0, I0, O0, X0, fx⟩ rfl rfl hT hfx
  refine AWp.seq ?_
  refine AWp.region ?_
  refine AOps.run hT false rfl ?_ ?_
  · repeat' (first | exact trivial | exact Bool.not_or_self _ | refine And.intro ?_ ?_ | (simp; done) | (simp_all; done) | (simp [inR_i64] at *; omega))
  refine AOps.nil ?_
  repeat (with_reducible first | refine thenNil ?_ | refine blockNil ?_)
  refine AWp.seq ?_
  refine AWp.region ?_
  refine AOps.run hT false rfl ?_ ?_
  · repeat' (first | exact trivial | exact Bool.not_or_self _ | refine And.intro ?_ ?_ | (simp; done) | (simp_all; done) | (simp [inR_i64] at *; omega))
  refine AOps.nil ?_
  repeat (with_reducible first | refine thenNil ?_ | refine blockNil ?_)
  refine AWp.ret ?_
  repeat (with_reducible first | refine thenRet ?_ | refine blockRet ?_)
  refine EndsIn.ret rfl ?_ ?_
  · repeat' (first | exact trivial | exact Bool.not_or_self _ | refine And.intro ?_ ?_ | (simp; done) | (simp_all; done) | (simp [inR_i64] at *; omega))
  refine ⟨[], ?_, rfl, rfl, rfl⟩
  rfl

set_option maxRecDepth 20000 in
theorem isUnique_fn (v : Int × Int → Int) (fv : FuncId) (hv : VFn v fv) (l : List (Int × Int)) (p : Int × Int) (hl : l.length ≤ 1048576) : AFn P 93 [lP l, cpair p, .clo fv []] (.i (cb (uq v l p))) [] := by
  refine AFn.of_body Tok 31 Go.Proofs.Try.func93 rfl rfl rfl (by simp) rfl ?_
  rintro ⟨_, _, w0, I0, O0, X0, fx⟩ rfl rfl hT hfx
  refine AWp.seq ?_
  refine AWp.region ?_
  refine AOps.run hT true rfl ?_ ?_
  · repeat' (first | exact trivial | exact Bool.not_or_self _ | refine And.intro ?_ ?_ | (simp; done) | (simp_all; done) | (simp [inR_i64] at *; omega))
  refine AOps.nil ?_
  repeat (with_reducible first | refine thenNil ?_ | refine blockNil ?_)
  refine AWp.seq ?_
  refine AWp.seq ?_
  refine AWp.region ?_
  refine AOps.run hT true rfl ?_ ?_
  · repeat' (first | exact trivial | exact Bool.not_or_self _ | refine And.intro ?_ ?_ | (simp; done) | (simp_all; done) | (simp [inR_i64] at *; omega))
  refine AOps.nil ?_
  repeat (with_reducible first | refine thenNil ?_ | refine blockNil ?_)
  refine AWp.block ?_
  refine AWp.loopS (σ := Int) (fun x => (l.length - x).toNat) (fun x => [(0, .i (lP l)), (2, .i (.clo fv [])), (4, .optr 0 0), (9, .i (lP l)), (10, .i (ci l.length)), (11, .i (ci x))]) (fun _ => [bP p]) (fun x => 0 ≤ x ∧ x ≤ l.length ∧ (l.take x.toNat).any (uqq v p) = false) (0) ?_ ?_ ?_
  · refine ⟨?_, ?_, rfl, rfl, fun k hk => Nat.lt_of_lt_of_le (hfx k hk) (Nat.le_of_ble_eq_true rfl)⟩
    · repeat' (first | exact Sub.nil | exact rfl | refine Sub.cons ?_ ?_)
    · repeat' (first | exact HTr.nil | exact objEq_refl _ | exact objEq_app1 | exact objEq_nil | exact objEq_mapP | exact objEq_mapI |  exact objEq_set (by first | omega | (simp; omega)) | exact objEq_appS (by simp) (appF_S rfl (fun _ _ => rfl)) | refine HTr.cons ?_ ?_ | refine HTr.dead rfl ?_)
  · exact ⟨by omega, by omega, rfl⟩
  rintro x ⟨h0, h1, h2⟩
  refine AWp.seq ?_
  refine AWp.region ?_
  refine AOps.run hT true rfl ?_ ?_
  · repeat' (first | exact trivial | exact Bool.not_or_self _ | refine And.intro ?_ ?_ | (simp; done) | (simp_all; done) | (simp [inR_i64] at *; omega))
  refine AOps.nil ?_
  repeat (with_reducible first | refine thenNil ?_ | refine blockNil ?_)
  refine AWp.seq ?_
  refine AWp.cond rfl ?_ (fun hc0 => ?_) (fun hc0 => ?_)
  · repeat' (first | exact trivial | exact Bool.not_or_self _ | refine And.intro ?_ ?_ | (simp; done) | (simp_all; done) | (simp [inR_i64] at *; omega))
  · try simp only [decide_eq_true_eq, decide_eq_false_iff_not] at hc0
    refine AWp.skip ?_
    repeat (with_reducible first | refine thenNil ?_ | refine blockNil ?_)
    refine AWp.seq ?_
    refine AWp.block ?_
    refine AWp.seq ?_
    refine AWp.region ?_
    refine AOps.run hT true rfl ?_ ?_
    · repeat' (first | exact trivial | exact Bool.not_or_self _ | refine And.intro ?_ ?_ | (simp; done) | (simp_all; done) | (simp [inR_i64] at *; omega))
    refine AOps.nil ?_
    repeat (with_reducible first | refine thenNil ?_ | refine blockNil ?_)
    refine AWp.seq ?_
    refine AWp.regionAny mixed [[], [], [0, 1], [0, 1, 2], [0, 1, 2, 3], [0, 1, 2, 3], [0, 1, 2, 3, 4, 5], [0, 1, 2, 3], [0, 1, 2, 3], [0, 1, 2, 3, 4, 5, 6, 7, 8], [0, 1, 2, 3, 4, 5, 6, 7, 8, 9], [0, 1, 2, 3, 4, 5, 6, 7, 8, 9, 10]] [] [_, _, _, _, _, _, _, _, _, _, _, _] [_] rfl (by decide) rfl ⟨⟨OpStep.of_astep hT (nw := true) rfl ⟨_, rfl, rfl⟩ ?_, trivial⟩, ⟨OpStep.of_astep hT (nw := true) rfl ⟨_, rfl, rfl⟩ ?_, trivial⟩, ⟨OpStep.of_astep hT (nw := true) rfl ⟨_, rfl, rfl⟩ ?_, trivial⟩, ⟨OpStep.of_astep hT (nw := true) rfl ⟨_, rfl, rfl⟩ ?_, trivial⟩, ⟨OpStep.of_astep hT (nw := true) rfl ⟨_, rfl, rfl⟩ ?_, trivial⟩, ⟨OpStep.of_astep hT (nw := true) rfl ⟨_, rfl, rfl⟩ ?_, trivial⟩, ⟨OpStep.of_callG (T := T) rfl rfl rfl rfl rfl (fun hg => ?_) (fun hg => hv (l.getD x.toNat default)) (.inl (by repeat' (first | exact trivial | refine And.intro ?_ ?_ | intro _))) rfl, trivial⟩, ⟨OpStep.of_astep hT (nw := true) rfl ⟨_, rfl, rfl⟩ ?_, trivial⟩, ⟨OpStep.of_astep hT (nw := true) rfl ⟨_, rfl, rfl⟩ ?_, trivial⟩, ⟨OpStep.of_callG (T := T) rfl rfl rfl rfl rfl (fun hg => ?_) (fun hg => hv p) (.inl (by repeat' (first | exact trivial | refine And.intro ?_ ?_ | intro _))) rfl, trivial⟩, ⟨OpStep.of_astep hT (nw := true) rfl ⟨_, rfl, rfl⟩ ?_, trivial⟩, ⟨OpStep.of_astep hT (nw := true) rfl ⟨_, rfl, rfl⟩ ?_, trivial⟩, trivial⟩ ?_
    · repeat' (first | exact trivial | exact Bool.not_or_self _ | refine And.intro ?_ ?_ | (simp; done) | (simp_all; done) | (simp [inR_i64] at *; omega))
    · repeat' (first | exact trivial | exact Bool.not_or_self _ | refine And.intro ?_ ?_ | (simp; done) | (simp_all; done) | (simp [inR_i64] at *; omega))
    · repeat' (first | exact trivial | exact Bool.not_or_self _ | refine And.intro ?_ ?_ | (simp; done) | (simp_all; done) | (simp [inR_i64] at *; omega))
    · repeat' (first | exact trivial | exact Bool.not_or_self _ | refine And.intro ?_ ?_ | (simp; done) | (simp_all; done) | (simp [inR_i64] at *; omega))
    · repeat' (first | exact trivial | exact Bool.not_or_self _ | refine And.intro ?_ ?_ | (simp; done) | (simp_all; done) | (simp [inR_i64] at *; omega))
    · repeat' (first | exact trivial | exact Bool.not_or_self _ | refine And.intro ?_ ?_ | (simp; done) | (simp_all; done) | (simp [inR_i64] at *; omega))
    · repeat' (first | exact trivial | exact Bool.not_or_self _ | refine And.intro ?_ ?_ | (simp; done) | (simp_all; done) | (simp [inR_i64] at *; omega))
    · repeat' (first | exact trivial | exact Bool.not_or_self _ | refine And.intro ?_ ?_ | (simp; done) | (simp_all; done) | (simp [inR_i64] at *; omega))
    · repeat' (first | exact trivial | exact Bool.not_or_self _ | refine And.intro ?_ ?_ | (simp; done) | (simp_all; done) | (simp [inR_i64] at *; omega))
    · repeat' (first | exact trivial | exact Bool.not_or_self _ | refine And.intro ?_ ?_ | (simp; done) | (simp_all; done) | (simp [inR_i64] at *; omega))
    · repeat' (first | exact trivial | exact Bool.not_or_self _ | refine And.intro ?_ ?_ | (simp; done) | (simp_all; done) | (simp [inR_i64] at *; omega))
    · repeat' (first | exact trivial | exact Bool.not_or_self _ | refine And.intro ?_ ?_ | (simp; done) | (simp_all; done) | (simp [inR_i64] at *; omega))
    repeat (with_reducible first | refine thenNil ?_ | refine blockNil ?_)
    refine AWp.cond rfl ?_ (fun hc1 => ?_) (fun hc1 => ?_)
    · repeat' (first | exact trivial | exact Bool.not_or_self _ | refine And.intro ?_ ?_ | (simp; done) | (simp_all; done) | (simp [inR_i64] at *; omega))
    · try simp only [decide_eq_true_eq, decide_eq_false_iff_not] at hc1
      refine AWp.seq ?_
      refine AWp.region ?_
      refine AOps.run hT true rfl ?_ ?_
      · repeat' (first | exact trivial | exact Bool.not_or_self _ | refine And.intro ?_ ?_ | (simp; done) | (simp_all; done) | (simp [inR_i64] at *; omega))
      refine AOps.nil ?_
      repeat (with_reducible first | refine thenNil ?_ | refine blockNil ?_)
      refine AWp.ret ?_
      repeat (with_reducible first | refine thenRet ?_ | refine blockRet ?_)
      refine EndsIn.ret rfl ?_ ?_
      · repeat' (first | exact trivial | exact Bool.not_or_self _ | refine And.intro ?_ ?_ | (simp; done) | (simp_all; done) | (simp [inR_i64] at *; omega))
      refine ⟨[], ?_, rfl, rfl, rfl⟩
      rw [show uq v l p = false from uq_hit h0 hc0 ((uq_i v p _).symm.trans hc1)]; rfl
    · try simp only [decide_eq_true_eq, decide_eq_false_iff_not] at hc1
      refine AWp.skip ?_
      repeat (with_reducible first | refine thenNil ?_ | refine blockNil ?_)
      refine AWp.region ?_
      refine AOps.run hT true rfl ?_ ?_
      · repeat' (first | exact trivial | exact Bool.not_or_self _ | refine And.intro ?_ ?_ | (simp; done) | (simp_all; done) | (simp [inR_i64] at *; omega))
      refine AOps.nil ?_
      repeat (with_reducible first | refine thenNil ?_ | refine blockNil ?_)
      refine Exists.intro (x + 1) (And.intro (And.intro ?_ ?_) ?_)
      · simp at *; omega
      · exact ⟨by omega, by omega, by rw [any_succ _ h0 hc0, h2]; exact (uq_i v p _).symm.trans hc1⟩
      · refine ⟨?_, ?_, rfl, rfl, fun k hk => Nat.lt_of_lt_of_le (hfx k hk) (Nat.le_of_ble_eq_true rfl)⟩
        · repeat' (first | exact Sub.nil | exact rfl | refine Sub.cons ?_ ?_)
        · repeat' (first | exact HTr.nil | exact objEq_refl _ | exact objEq_app1 | exact objEq_nil | exact objEq_mapP | exact objEq_mapI |  exact objEq_set (by first | omega | (simp; omega)) | exact objEq_appS (by simp) (appF_S rfl (fun _ _ => rfl)) | refine HTr.cons ?_ ?_ | refine HTr.dead rfl ?_)
  · try simp only [decide_eq_true_eq, decide_eq_false_iff_not] at hc0
    refine AWp.exit ?_
    repeat (with_reducible first | refine thenExit ?_ | refine blockSame ?_ | refine blockOther rfl ?_ | refine thenNil ?_ | refine blockNil ?_)
    refine AWp.seq ?_
    refine AWp.region ?_
    refine AOps.run hT true rfl ?_ ?_
    · repeat' (first | exact trivial | exact Bool.not_or_self _ | refine And.intro ?_ ?_ | (simp; done) | (simp_all; done) | (simp [inR_i64] at *; omega))
    refine AOps.callF (T := T) rfl rfl rfl rfl rfl ?_ (containsP_fn l p hl) (.inl ⟨by repeat' (first | exact trivial | refine And.intro ?_ ?_ | intro _), by repeat' (first | exact trivial | refine And.intro ?_ ?_ | intro _)⟩) rfl ?_
    · repeat' (first | exact trivial | exact Bool.not_or_self _ | refine And.intro ?_ ?_ | (simp; done) | (simp_all; done) | (simp [inR_i64] at *; omega))
    refine AOps.run hT true rfl ?_ ?_
    · repeat' (first | exact trivial | exact Bool.not_or_self _ | refine And.intro ?_ ?_ | (simp; done) | (simp_all; done) | (simp [inR_i64] at *; omega))
    refine AOps.nil ?_
    repeat (with_reducible first | refine thenNil ?_ | refine blockNil ?_)
    refine AWp.ret ?_
    repeat (with_reducible first | refine thenRet ?_ | refine blockRet ?_)
    refine EndsIn.ret rfl ?_ ?_
    · repeat' (first | exact trivial | exact Bool.not_or_self _ | refine And.intro ?_ ?_ | (simp; done) | (simp_all; done) | (simp [inR_i64] at *; omega))
    refine ⟨[], ?_, rfl, rfl, rfl⟩
    rw [show uq v l p = has l p from uq_end hc0 h2]; rfl

set_option maxRecDepth 20000 in
theorem sUniqueProduct_fn (l : List (Int × Int)) (p : Int × Int) (hl : l.length ≤ 1048576) : AFn P 44 [lP l, cpair p] (.i (cb (uq vprod l p))) [] := by
  refine AFn.of_body Tok 33 Go.Proofs.Try.func44 rfl rfl rfl (by simp) rfl ?_
  rintro ⟨_, _, w0, I0, O0, X0, fx⟩ rfl rfl hT hfx
  refine AWp.seq ?_
  refine AWp.region ?_
  refine AOps.run hT true rfl ?_ ?_
  · repeat' (first | exact trivial | exact Bool.not_or_self _ | refine And.intro ?_ ?_ | (simp; done) | (simp_all; done) | (simp [inR_i64] at *; omega))
  refine AOps.nil ?_
  repeat (with_reducible first | refine thenNil ?_ | refine blockNil ?_)
  refine AWp.seq ?_
  refine AWp.seq ?_
  refine AWp.region ?_
  refine AOps.run hT true rfl ?_ ?_
  · repeat' (first | exact trivial | exact Bool.not_or_self _ | refine And.intro ?_ ?_ | (simp; done) | (simp_all; done) | (simp [inR_i64] at *; omega))
  refine AOps.nil ?_
  repeat (with_reducible first | refine thenNil ?_ | refine blockNil ?_)
  refine AWp.block ?_
  refine AWp.loopS (σ := Int) (fun x => (l.length - x).toNat) (fun x => [(0, .i (lP l)), (3, .optr 0 0), (7, .i (lP l)), (8, .i (ci l.length)), (9, .i (ci x)), (4, .i (cb false))]) (fun _ => [bP p]) (fun x => 0 ≤ x ∧ x ≤ l.length ∧ (l.take x.toNat).any (uqq vprod p) = false) (0) ?_ ?_ ?_
  · refine ⟨?_, ?_, rfl, rfl, fun k hk => Nat.lt_of_lt_of_le (hfx k hk) (Nat.le_of_ble_eq_true rfl)⟩
    · repeat' (first | exact Sub.nil | exact rfl | refine Sub.cons ?_ ?_)
    · repeat' (first | exact HTr.nil | exact objEq_refl _ | exact objEq_app1 | exact objEq_nil | exact objEq_mapP | exact objEq_mapI |  exact objEq_set (by first | omega | (simp; omega)) | exact objEq_appS (by simp) (appF_S rfl (fun _ _ => rfl)) | refine HTr.cons ?_ ?_ | refine HTr.dead rfl ?_)
  · exact ⟨by omega, by omega, rfl⟩
  rintro x ⟨h0, h1, h2⟩
  refine AWp.seq ?_
  refine AWp.region ?_
  refine AOps.run hT true rfl ?_ ?_
  · repeat' (first | exact trivial | exact Bool.not_or_self _ | refine And.intro ?_ ?_ | (simp; done) | (simp_all; done) | (simp [inR_i64] at *; omega))
  refine AOps.nil ?_
  repeat (with_reducible first | refine thenNil ?_ | refine blockNil ?_)
  refine AWp.seq ?_
  refine AWp.cond rfl ?_ (fun hc0 => ?_) (fun hc0 => ?_)
  · repeat' (first | exact trivial | exact Bool.not_or_self _ | refine And.intro ?_ ?_ | (simp; done) | (simp_all; done) | (simp [inR_i64] at *; omega))
  · try simp only [decide_eq_true_eq, decide_eq_false_iff_not] at hc0
    refine AWp.skip ?_
    repeat (with_reducible first | refine thenNil ?_ | refine blockNil ?_)
    refine AWp.seq ?_
    refine AWp.block ?_
    refine AWp.seq ?_
    refine AWp.region ?_
    refine AOps.run hT true rfl ?_ ?_
    · repeat' (first | exact trivial | exact Bool.not_or_self _ | refine And.intro ?_ ?_ | (simp; done) | (simp_all; done) | (simp [inR_i64] at *; omega))
    refine AOps.nil ?_
    repeat (with_reducible first | refine thenNil ?_ | refine blockNil ?_)
    refine AWp.seq ?_
    refine AWp.region ?_
    refine AOps.run hT false rfl ?_ ?_
    · repeat' (first | exact trivial | exact Bool.not_or_self _ | refine And.intro ?_ ?_ | (simp; done) | (simp_all; done) | (simp [inR_i64] at *; omega))
    refine AOps.nil ?_
    repeat (with_reducible first | refine thenNil ?_ | refine blockNil ?_)
    refine AWp.cond rfl ?_ (fun hc1 => ?_) (fun hc1 => ?_)
    · repeat' (first | exact trivial | exact Bool.not_or_self _ | refine And.intro ?_ ?_ | (simp; done) | (simp_all; done) | (simp [inR_i64] at *; omega))
    · try simp only [decide_eq_true_eq, decide_eq_false_iff_not] at hc1
      refine AWp.seq ?_
      refine AWp.region ?_
      refine AOps.run hT true rfl ?_ ?_
      · repeat' (first | exact trivial | exact Bool.not_or_self _ | refine And.intro ?_ ?_ | (simp; done) | (simp_all; done) | (simp [inR_i64] at *; omega))
      refine AOps.nil ?_
      repeat (with_reducible first | refine thenNil ?_ | refine blockNil ?_)
      refine AWp.ret ?_
      repeat (with_reducible first | refine thenRet ?_ | refine blockRet ?_)
      refine EndsIn.ret rfl ?_ ?_
      · repeat' (first | exact trivial | exact Bool.not_or_self _ | refine And.intro ?_ ?_ | (simp; done) | (simp_all; done) | (simp [inR_i64] at *; omega))
      refine ⟨[], ?_, rfl, rfl, rfl⟩
      rw [show uq vprod l p = false from uq_hit h0 hc0 ((uq_s vprod p _).symm.trans hc1)]; rfl
    · try simp only [decide_eq_true_eq, decide_eq_false_iff_not] at hc1
      refine AWp.skip ?_
      repeat (with_reducible first | refine thenNil ?_ | refine blockNil ?_)
      refine AWp.region ?_
      refine AOps.run hT true rfl ?_ ?_
      · repeat' (first | exact trivial | exact Bool.not_or_self _ | refine And.intro ?_ ?_ | (simp; done) | (simp_all; done) | (simp [inR_i64] at *; omega))
      refine AOps.nil ?_
      repeat (with_reducible first | refine thenNil ?_ | refine blockNil ?_)
      refine Exists.intro (x + 1) (And.intro (And.intro ?_ ?_) ?_)
      · simp at *; omega
      · exact ⟨by omega, by omega, by rw [any_succ _ h0 hc0, h2]; exact (uq_s vprod p _).symm.trans hc1⟩
      · refine ⟨?_, ?_, rfl, rfl, fun k hk => Nat.lt_of_lt_of_le (hfx k hk) (Nat.le_of_ble_eq_true rfl)⟩
        · repeat' (first | exact Sub.nil | exact rfl | refine Sub.cons ?_ ?_)
        · repeat' (first | exact HTr.nil | exact objEq_refl _ | exact objEq_app1 | exact objEq_nil | exact objEq_mapP | exact objEq_mapI |  exact objEq_set (by first | omega | (simp; omega)) | exact objEq_appS (by simp) (appF_S rfl (fun _ _ => rfl)) | refine HTr.cons ?_ ?_ | refine HTr.dead rfl ?_)
  · try simp only [decide_eq_true_eq, decide_eq_false_iff_not] at hc0
    refine AWp.exit ?_
    repeat (with_reducible first | refine thenExit ?_ | refine blockSame ?_ | refine blockOther rfl ?_ | refine thenNil ?_ | refine blockNil ?_)
    refine AWp.seq ?_
    refine AWp.region ?_
    refine AOps.run hT true rfl ?_ ?_
    · repeat' (first | exact trivial | exact Bool.not_or_self _ | refine And.intro ?_ ?_ | (simp; done) | (simp_all; done) | (simp [inR_i64] at *; omega))
    refine AOps.callF (T := T) rfl rfl rfl rfl rfl ?_ (l11Has_fn l p hl) (.inl ⟨by repeat' (first | exact trivial | refine And.intro ?_ ?_ | intro _), by repeat' (first | exact trivial | refine And.intro ?_ ?_ | intro _)⟩) rfl ?_
    · repeat' (first | exact trivial | exact Bool.not_or_self _ | refine And.intro ?_ ?_ | (simp; done) | (simp_all; done) | (simp [inR_i64] at *; omega))
    refine AOps.run hT true rfl ?_ ?_
    · repeat' (first | exact trivial | exact Bool.not_or_self _ | refine And.intro ?_ ?_ | (simp; done) | (simp_all; done) | (simp [inR_i64] at *; omega))
    refine AOps.nil ?_
    repeat (with_reducible first | refine thenNil ?_ | refine blockNil ?_)
    refine AWp.ret ?_
    repeat (with_reducible first | refine thenRet ?_ | refine blockRet ?_)
    refine EndsIn.ret rfl ?_ ?_
    · repeat' (first | exact trivial | exact Bool.not_or_self _ | refine And.intro ?_ ?_ | (simp; done) | (simp_all; done) | (simp [inR_i64] at *; omega))
    refine ⟨[], ?_, rfl, rfl, rfl⟩
    rw [show uq vprod l p = has l p from uq_end hc0 h2]; rfl

set_option maxRecDepth 20000 in
theorem sUniqueSum_fn (l : List (Int × Int)) (p : Int × Int) (hl : l.length ≤ 1048576) : AFn P 46 [lP l, cpair p] (.i (cb (uq vsum l p))) [] := by
  refine AFn.of_body Tok 33 Go.Proofs.Try.func46 rfl rfl rfl (by simp) rfl ?_
  rintro ⟨_, _, w0, I0, O0, X0, fx⟩ rfl rfl hT hfx
  refine AWp.seq ?_
  refine AWp.region ?_
  refine AOps.run hT true rfl ?_ ?_
  · repeat' (first | exact trivial | exact Bool.not_or_self _ | refine And.intro ?_ ?_ | (simp; done) | (simp_all; done) | (simp [inR_i64] at *; omega))
  refine AOps.nil ?_
  repeat (with_reducible first | refine thenNil ?_ | refine blockNil ?_)
  refine AWp.seq ?_
  refine AWp.seq ?_
  refine AWp.region ?_
  refine AOps.run hT true rfl ?_ ?_
  · repeat' (first | exact trivial | exact Bool.not_or_self _ | refine And.intro ?_ ?_ | (simp; done) | (simp_all; done) | (simp [inR_i64] at *; omega))
  refine AOps.nil ?_
  repeat (with_reducible first | refine thenNil ?_ | refine blockNil ?_)
  refine AWp.block ?_
  refine AWp.loopS (σ := Int) (fun x => (l.length - x).toNat) (fun x => [(0, .i (lP l)), (3, .optr 0 0), (7, .i (lP l)), (8, .i (ci l.length)), (9, .i (ci x)), (4, .i (cb false))]) (fun _ => [bP p]) (fun x => 0 ≤ x ∧ x ≤ l.length ∧ (l.take x.toNat).any (uqq vsum p) = false) (0) ?_ ?_ ?_
  · refine ⟨?_, ?_, rfl, rfl, fun k hk => Nat.lt_of_lt_of_le (hfx k hk) (Nat.le_of_ble_eq_true rfl)⟩
    · repeat' (first | exact Sub.nil | exact rfl | refine Sub.cons ?_ ?_)
    · repeat' (first | exact HTr.nil | exact objEq_refl _ | exact objEq_app1 | exact objEq_nil | exact objEq_mapP | exact objEq_mapI |  exact objEq_set (by first | omega | (simp; omega)) | exact objEq_appS (by simp) (appF_S rfl (fun _ _ => rfl)) | refine HTr.cons ?_ ?_ | refine HTr.dead rfl ?_)
  · exact ⟨by omega, by omega, rfl⟩
  rintro x ⟨h0, h1, h2⟩
  refine AWp.seq ?_
  refine AWp.region ?_
  refine AOps.run hT true rfl ?_ ?_
  · repeat' (first | exact trivial | exact Bool.not_or_self _ | refine And.intro ?_ ?_ | (simp; done) | (simp_all; done) | (simp [inR_i64] at *; omega))
  refine AOps.nil ?_
  repeat (with_reducible first | refine thenNil ?_ | refine blockNil ?_)
  refine AWp.seq ?_
  refine AWp.cond rfl ?_ (fun hc0 => ?_) (fun hc0 => ?_)
  · repeat' (first | exact trivial | exact Bool.not_or_self _ | refine And.intro ?_ ?_ | (simp; done) | (simp_all; done) | (simp [inR_i64] at *; omega))
  · try simp only [decide_eq_true_eq, decide_eq_false_iff_not] at hc0
    refine AWp.skip ?_
    repeat (with_reducible first | refine thenNil ?_ | refine blockNil ?_)
    refine AWp.seq ?_
    refine AWp.block ?_
    refine AWp.seq ?_
    refine AWp.region ?_
    refine AOps.run hT true rfl ?_ ?_
    · repeat' (first | exact trivial | exact Bool.not_or_self _ | refine And.intro ?_ ?_ | (simp; done) | (simp_all; done) | (simp [inR_i64] at *; omega))
    refine AOps.nil ?_
    repeat (with_reducible first | refine thenNil ?_ | refine blockNil ?_)
    refine AWp.seq ?_
    refine AWp.region ?_
    refine AOps.run hT false rfl ?_ ?_
    · repeat' (first | exact trivial | exact Bool.not_or_self _ | refine And.intro ?_ ?_ | (simp; done) | (simp_all; done) | (simp [inR_i64] at *; omega))
    refine AOps.nil ?_
    repeat (with_reducible first | refine thenNil ?_ | refine blockNil ?_)
    refine AWp.cond rfl ?_ (fun hc1 => ?_) (fun hc1 => ?_)
    · repeat' (first | exact trivial | exact Bool.not_or_self _ | refine And.intro ?_ ?_ | (simp; done) | (simp_all; done) | (simp [inR_i64] at *; omega))
    · try simp only [decide_eq_true_eq, decide_eq_false_iff_not] at hc1
      refine AWp.seq ?_
      refine AWp.region ?_
      refine AOps.run hT true rfl ?_ ?_
      · repeat' (first | exact trivial | exact Bool.not_or_self _ | refine And.intro ?_ ?_ | (simp; done) | (simp_all; done) | (simp [inR_i64] at *; omega))
      refine AOps.nil ?_
      repeat (with_reducible first | refine thenNil ?_ | refine blockNil ?_)
      refine AWp.ret ?_
      repeat (with_reducible first | refine thenRet ?_ | refine blockRet ?_)
      refine EndsIn.ret rfl ?_ ?_
      · repeat' (first | exact trivial | exact Bool.not_or_self _ | refine And.intro ?_ ?_ | (simp; done) | (simp_all; done) | (simp [inR_i64] at *; omega))
      refine ⟨[], ?_, rfl, rfl, rfl⟩
      rw [show uq vsum l p = false from uq_hit h0 hc0 ((uq_s vsum p _).symm.trans hc1)]; rfl
    · try simp only [decide_eq_true_eq, decide_eq_false_iff_not] at hc1
      refine AWp.skip ?_
      repeat (with_reducible first | refine thenNil ?_ | refine blockNil ?_)
      refine AWp.region ?_
      refine AOps.run hT true rfl ?_ ?_
      · repeat' (first | exact trivial | exact Bool.not_or_self _ | refine And.intro ?_ ?_ | (simp; done) | (simp_all; done) | (simp [inR_i64] at *; omega))
      refine AOps.nil ?_
      repeat (with_reducible first | refine thenNil ?_ | refine blockNil ?_)
      refine Exists.intro (x + 1) (And.intro (And.intro ?_ ?_) ?_)
      · simp at *; omega
      · exact ⟨by omega, by omega, by rw [any_succ _ h0 hc0, h2]; exact (uq_s vsum p _).symm.trans hc1⟩
      · refine ⟨?_, ?_, rfl, rfl, fun k hk => Nat.lt_of_lt_of_le (hfx k hk) (Nat.le_of_ble_eq_true rfl)⟩
        · repeat' (first | exact Sub.nil | exact rfl | refine Sub.cons ?_ ?_)
        · repeat' (first | exact HTr.nil | exact objEq_refl _ | exact objEq_app1 | exact objEq_nil | exact objEq_mapP | exact objEq_mapI |  exact objEq_set (by first | omega | (simp; omega)) | exact objEq_appS (by simp) (appF_S rfl (fun _ _ => rfl)) | refine HTr.cons ?_ ?_ | refine HTr.dead rfl ?_)
  · try simp only [decide_eq_true_eq, decide_eq_false_iff_not] at hc0
    refine AWp.exit ?_
    repeat (with_reducible first | refine thenExit ?_ | refine blockSame ?_ | refine blockOther rfl ?_ | refine thenNil ?_ | refine blockNil ?_)
    refine AWp.seq ?_
    refine AWp.region ?_
    refine AOps.run hT true rfl ?_ ?_
    · repeat' (first | exact trivial | exact Bool.not_or_self _ | refine And.intro ?_ ?_ | (simp; done) | (simp_all; done) | (simp [inR_i64] at *; omega))
    refine AOps.callF (T := T) rfl rfl rfl rfl rfl ?_ (l11Has_fn l p hl) (.inl ⟨by repeat' (first | exact trivial | refine And.intro ?_ ?_ | intro _), by repeat' (first | exact trivial | refine And.intro ?_ ?_ | intro _)⟩) rfl ?_
    · repeat' (first | exact trivial | exact Bool.not_or_self _ | refine And.intro ?_ ?_ | (simp; done) | (simp_all; done) | (simp [inR_i64] at *; omega))
    refine AOps.run hT true rfl ?_ ?_
    · repeat' (first | exact trivial | exact Bool.not_or_self _ | refine And.intro ?_ ?_ | (simp; done) | (simp_all; done) | (simp [inR_i64] at *; omega))
    refine AOps.nil ?_
    repeat (with_reducible first | refine thenNil ?_ | refine blockNil ?_)
    refine AWp.ret ?_
    repeat (with_reducible first | refine thenRet ?_ | refine blockRet ?_)
    refine EndsIn.ret rfl ?_ ?_
    · repeat' (first | exact trivial | exact Bool.not_or_self _ | refine And.intro ?_ ?_ | (simp; done) | (simp_all; done) | (simp [inR_i64] at *; omega))
    refine ⟨[], ?_, rfl, rfl, rfl⟩
    rw [show uq vsum l p = has l p from uq_end hc0 h2]; rfl

set_option maxRecDepth 20000 in
theorem UniqueProduct_fn (l : List (Int × Int)) (p : Int × Int) (hl : l.length ≤ 1048576) : AFn P 45 [lP l, cpair p] (.i (cb (uq vprod l p))) [] := by
  refine AFn.of_body Tok 8 Go.Proofs.Try.func45 rfl rfl rfl (by simp) rfl ?_
  rintro ⟨_, _, w0, I0, O0, X0, fx⟩ rfl rfl hT hfx
  refine AWp.seq ?_
  refine AWp.region ?_
  refine AOps.run hT true rfl ?_ ?_
  · repeat' (first | exact trivial | exact Bool.not_or_self _ | refine And.intro ?_ ?_ | (simp; done) | (simp_all; done) | (simp [inR_i64] at *; omega))
  refine AOps.nil ?_
  repeat (with_reducible first | refine thenNil ?_ | refine blockNil ?_)
  refine AWp.seq ?_
  refine AWp.region ?_
  refine AOps.run hT true rfl ?_ ?_
  · repeat' (first | exact trivial | exact Bool.not_or_self _ | refine And.intro ?_ ?_ | (simp; done) | (simp_all; done) | (simp [inR_i64] at *; omega))
  refine AOps.callF (T := T) rfl rfl rfl rfl rfl ?_ (isUnique_fn vprod 94 product_fn l p hl) (.inl ⟨by repeat' (first | exact trivial | refine And.intro ?_ ?_ | intro _), by repeat' (first | exact trivial | refine And.intro ?_ ?_ | intro _)⟩) rfl ?_
  · repeat' (first | exact trivial | exact Bool.not_or_self _ | refine And.intro ?_ ?_ | (simp; done) | (simp_all; done) | (simp [inR_i64] at *; omega))
  refine AOps.run hT true rfl ?_ ?_
  · repeat' (first | exact trivial | exact Bool.not_or_self _ | refine And.intro ?_ ?_ | (simp; done) | (simp_all; done) | (simp [inR_i64] at *; omega))
  refine AOps.nil ?_
  repeat (with_reducible first | refine thenNil ?_ | refine blockNil ?_)
  refine AWp.ret ?_
  repeat (with_reducible first | refine thenRet ?_ | refine blockRet ?_)
  refine EndsIn.ret rfl ?_ ?_
  · repeat' (first | exact trivial | exact Bool.not_or_self _ | refine And.intro ?_ ?_ | (simp; done) | (simp_all; done) | (simp [inR_i64] at *; omega))
  refine ⟨[], ?_, rfl, rfl, rfl⟩
  rfl

set_option maxRecDepth 20000 in
theorem UniqueSum_fn (l : List (Int × Int)) (p : Int × Int) (hl : l.length ≤ 1048576) : AFn P 47 [lP l, cpair p] (.i (cb (uq vsum l p))) [] := by
  refine AFn.of_body Tok 8 Go.Proofs.Try.func47 rfl rfl rfl (by simp) rfl ?_
  rintro ⟨_, _, w0, I0, O0, X0, fx⟩ rfl rfl hT hfx
  refine AWp.seq ?_
  refine AWp.region ?_
  refine AOps.run hT true rfl ?_ ?_
  · repeat' (first | exact trivial | exact Bool.not_or_self _ | refine And.intro ?_ ?_ | (simp; done) | (simp_all; done) | (simp [inR_i64] at *; omega))
  refine AOps.nil ?_
  repeat (with_reducible first | refine thenNil ?_ | refine blockNil ?_)
  refine AWp.seq ?_
  refine AWp.region ?_
  refine AOps.run hT true rfl ?_ ?_
  · repeat' (first | exact trivial | exact Bool.not_or_self _ | refine And.intro ?_ ?_ | (simp; done) | (simp_all; done) | (simp [inR_i64] at *; omega))
  refine AOps.callF (T := T) rfl rfl rfl rfl rfl ?_ (isUnique_fn vsum 95 sum_fn l p hl) (.inl ⟨by repeat' (first | exact trivial | refine And.intro ?_ ?_ | intro _), by repeat' (first | exact trivial | refine And.intro ?_ ?_ | intro _)⟩) rfl ?_
  · repeat' (first | exact trivial | exact Bool.not_or_self _ | refine And.intro ?_ ?_ | (simp; done) | (simp_all; done) | (simp [inR_i64] at *; omega))
  refine AOps.run hT true rfl ?_ ?_
  · repeat' (first | exact trivial | exact Bool.not_or_self _ | refine And.intro ?_ ?_ | (simp; done) | (simp_all; done) | (simp [inR_i64] at *; omega))
  refine AOps.nil ?_
  repeat (with_reducible first | refine thenNil ?_ | refine blockNil ?_)
  refine AWp.ret ?_
  repeat (with_reducible first | refine thenRet ?_ | refine blockRet ?_)
  refine EndsIn.ret rfl ?_ ?_
  · repeat' (first | exact trivial | exact Bool.not_or_self _ | refine And.intro ?_ ?_ | (simp; done) | (simp_all; done) | (simp [inR_i64] at *; omega))
  refine ⟨[], ?_, rfl, rfl, rfl⟩
  rfl

set_option maxRecDepth 20000 in
theorem law8 (l : List (Int × Int)) (p : Int × Int) (hl : l.length ≤ maxLen) : AFn P 8 [lP l, cpair p] (.i (cb true)) [] := by
  refine AFn.of_body Tok 33 Go.Proofs.Try.func8 rfl rfl rfl (by simp) rfl ?_
  rintro ⟨_, _, w0, I0, O0, X0, fx⟩ rfl rfl hT hfx
  refine AWp.seq ?_
  refine AWp.region ?_
  refine AOps.run hT true rfl ?_ ?_
  · repeat' (first | exact trivial | exact Bool.not_or_self _ | refine And.intro ?_ ?_ | (simp; done) | (simp_all; done) | (simp [inR_i64] at *; omega))
  refine AOps.nil ?_
  repeat (with_reducible first | refine thenNil ?_ | refine blockNil ?_)
  refine AWp.seq ?_
  refine AWp.region ?_
  refine AOps.run hT true rfl ?_ ?_
  · repeat' (first | exact trivial | exact Bool.not_or_self _ | refine And.intro ?_ ?_ | (simp; done) | (simp_all; done) | (simp [inR_i64] at *; omega))
  refine AOps.nil ?_
  repeat (with_reducible first | refine thenNil ?_ | refine blockNil ?_)
  refine AWp.seq ?_
  refine AWp.region ?_
  refine AOps.run hT true rfl ?_ ?_
  · repeat' (first | exact trivial | exact Bool.not_or_self _ | refine And.intro ?_ ?_ | (simp; done) | (simp_all; done) | (simp [inR_i64] at *; omega))
  refine AOps.callF (T := T) rfl rfl rfl rfl rfl ?_ (szPairS_fn l hl) (.inl ⟨by repeat' (first | exact trivial | refine And.intro ?_ ?_ | intro _), by repeat' (first | exact trivial | refine And.intro ?_ ?_ | intro _)⟩) rfl ?_
  · repeat' (first | exact trivial | exact Bool.not_or_self _ | refine And.intro ?_ ?_ | (simp; done) | (simp_all; done) | (simp [inR_i64] at *; omega))
  refine AOps.run hT true rfl ?_ ?_
  · repeat' (first | exact trivial | exact Bool.not_or_self _ | refine And.intro ?_ ?_ | (simp; done) | (simp_all; done) | (simp [inR_i64] at *; omega))
  refine AOps.nil ?_
  repeat (with_reducible first | refine thenNil ?_ | refine blockNil ?_)
  refine AWp.seq ?_
  refine AWp.seq ?_
  refine AWp.region ?_
  refine AOps.run hT true rfl ?_ ?_
  · repeat' (first | exact trivial | exact Bool.not_or_self _ | refine And.intro ?_ ?_ | (simp; done) | (simp_all; done) | (simp [inR_i64] at *; omega))
  refine AOps.nil ?_
  repeat (with_reducible first | refine thenNil ?_ | refine blockNil ?_)
  refine AWp.cond rfl ?_ (fun hc0 => ?_) (fun hc0 => ?_)
  · repeat' (first | exact trivial | exact Bool.not_or_self _ | refine And.intro ?_ ?_ | (simp; done) | (simp_all; done) | (simp [inR_i64] at *; omega))
  · try simp only [decide_eq_true_eq, decide_eq_false_iff_not] at hc0
    refine AWp.seq ?_
    refine AWp.region ?_
    refine AOps.run hT true rfl ?_ ?_
    · repeat' (first | exact trivial | exact Bool.not_or_self _ | refine And.intro ?_ ?_ | (simp; done) | (simp_all; done) | (simp [inR_i64] at *; omega))
    refine AOps.nil ?_
    repeat (with_reducible first | refine thenNil ?_ | refine blockNil ?_)
    refine AWp.ret ?_
    repeat (with_reducible first | refine thenRet ?_ | refine blockRet ?_)
    refine EndsIn.ret rfl ?_ ?_
    · repeat' (first | exact trivial | exact Bool.not_or_self _ | refine And.intro ?_ ?_ | (simp; done) | (simp_all; done) | (simp [inR_i64] at *; omega))
    refine ⟨[], ?_, rfl, rfl, rfl⟩
    rfl
  · try simp only [decide_eq_true_eq, decide_eq_false_iff_not] at hc0
    refine AWp.skip ?_
    repeat (with_reducible first | refine thenNil ?_ | refine blockNil ?_)
    refine AWp.seq ?_
    have hl2 : l.length ≤ 1048576 := by split at hc0 <;> omega
    refine AWp.regionAny mixed [[], [0], [], [0, 1, 2], [0, 1, 2, 3], [0, 1, 2, 3, 4]] [1] [_, _, _, _, _, _] [_, _] rfl (by decide) rfl ⟨⟨OpStep.of_astep hT (nw := true) rfl ⟨_, rfl, rfl⟩ ?_, trivial⟩, ⟨OpStep.of_call (T := T) rfl rfl rfl rfl rfl ?_ (toPairS_fn l hl2) (.inl ⟨by repeat' (first | exact trivial | refine And.intro ?_ ?_ | intro _), by repeat' (first | exact trivial | refine And.intro ?_ ?_ | intro _)⟩) rfl, trivial⟩, ⟨OpStep.of_astep hT (nw := true) rfl ⟨_, rfl, rfl⟩ ?_, OpStep.of_astep hT (nw := true) rfl ⟨_, rfl, rfl⟩ ?_, trivial⟩, ⟨OpStep.of_call (T := T) (H2 := []) rfl rfl rfl rfl rfl ?_ (toPair_fn p) (.inl ⟨by repeat' (first | exact trivial | refine And.intro ?_ ?_ | intro _), by repeat' (first | exact trivial | refine And.intro ?_ ?_ | intro _)⟩) rfl, trivial⟩, ⟨OpStep.of_call (T := T) (H2 := []) rfl rfl rfl rfl rfl ?_ (sUniqueProduct_fn l p hl2) (.inl ⟨by repeat' (first | exact trivial | refine And.intro ?_ ?_ | intro _), by repeat' (first | exact trivial | refine And.intro ?_ ?_ | intro _)⟩) rfl, trivial⟩, ⟨OpStep.of_astep hT (nw := true) rfl ⟨_, rfl, rfl⟩ ?_, trivial⟩, trivial⟩ ?_
    · repeat' (first | exact trivial | exact Bool.not_or_self _ | refine And.intro ?_ ?_ | (simp; done) | (simp_all; done) | (simp [inR_i64] at *; omega))
    · repeat' (first | exact trivial | exact Bool.not_or_self _ | refine And.intro ?_ ?_ | (simp; done) | (simp_all; done) | (simp [inR_i64] at *; omega))
    · repeat' (first | exact trivial | exact Bool.not_or_self _ | refine And.intro ?_ ?_ | (simp; done) | (simp_all; done) | (simp [inR_i64] at *; omega))
    · repeat' (first | exact trivial | exact Bool.not_or_self _ | refine And.intro ?_ ?_ | (simp; done) | (simp_all; done) | (simp [inR_i64] at *; omega))
    · repeat' (first | exact trivial | exact Bool.not_or_self _ | refine And.intro ?_ ?_ | (simp; done) | (simp_all; done) | (simp [inR_i64] at *; omega))
    · repeat' (first | exact trivial | exact Bool.not_or_self _ | refine And.intro ?_ ?_ | (simp; done) | (simp_all; done) | (simp [inR_i64] at *; omega))
    · repeat' (first | exact trivial | exact Bool.not_or_self _ | refine And.intro ?_ ?_ | (simp; done) | (simp_all; done) | (simp [inR_i64] at *; omega))
    repeat (with_reducible first | refine thenNil ?_ | refine blockNil ?_)
    refine AWp.seq ?_
    refine AWp.region ?_
    refine AOps.run hT true rfl ?_ ?_
    · repeat' (first | exact trivial | exact Bool.not_or_self _ | refine And.intro ?_ ?_ | (simp; done) | (simp_all; done) | (simp [inR_i64] at *; omega))
    refine AOps.callF (T := T) rfl rfl rfl rfl rfl ?_ (toPairS_fn l hl2) (.inl ⟨by repeat' (first | exact trivial | refine And.intro ?_ ?_ | intro _), by repeat' (first | exact trivial | refine And.intro ?_ ?_ | intro _)⟩) rfl ?_
    · repeat' (first | exact trivial | exact Bool.not_or_self _ | refine And.intro ?_ ?_ | (simp; done) | (simp_all; done) | (simp [inR_i64] at *; omega))
    refine AOps.run hT true rfl ?_ ?_
    · repeat' (first | exact trivial | exact Bool.not_or_self _ | refine And.intro ?_ ?_ | (simp; done) | (simp_all; done) | (simp [inR_i64] at *; omega))
    refine AOps.nil ?_
    repeat (with_reducible first | refine thenNil ?_ | refine blockNil ?_)
    refine AWp.seq ?_
    refine AWp.region ?_
    refine AOps.run hT true rfl ?_ ?_
    · repeat' (first | exact trivial | exact Bool.not_or_self _ | refine And.intro ?_ ?_ | (simp; done) | (simp_all; done) | (simp [inR_i64] at *; omega))
    refine AOps.callF (T := T) rfl rfl rfl rfl rfl ?_ (toPair_fn p) (.inl ⟨by repeat' (first | exact trivial | refine And.intro ?_ ?_ | intro _), by repeat' (first | exact trivial | refine And.intro ?_ ?_ | intro _)⟩) rfl ?_
    · repeat' (first | exact trivial | exact Bool.not_or_self _ | refine And.intro ?_ ?_ | (simp; done) | (simp_all; done) | (simp [inR_i64] at *; omega))
    refine AOps.callF (T := T) rfl rfl rfl rfl rfl ?_ (UniqueProduct_fn l p hl2) (.inl ⟨by repeat' (first | exact trivial | refine And.intro ?_ ?_ | intro _), by repeat' (first | exact trivial | refine And.intro ?_ ?_ | intro _)⟩) rfl ?_
    · repeat' (first | exact trivial | exact Bool.not_or_self _ | refine And.intro ?_ ?_ | (simp; done) | (simp_all; done) | (simp [inR_i64] at *; omega))
    refine AOps.run hT true rfl ?_ ?_
    · repeat' (first | exact trivial | exact Bool.not_or_self _ | refine And.intro ?_ ?_ | (simp; done) | (simp_all; done) | (simp [inR_i64] at *; omega))
    refine AOps.nil ?_
    repeat (with_reducible first | refine thenNil ?_ | refine blockNil ?_)
    refine AWp.seq ?_
    refine AWp.seq ?_
    refine AWp.region ?_
    refine AOps.run hT true rfl ?_ ?_
    · repeat' (first | exact trivial | exact Bool.not_or_self _ | refine And.intro ?_ ?_ | (simp; done) | (simp_all; done) | (simp [inR_i64] at *; omega))
    refine AOps.nil ?_
    repeat (with_reducible first | refine thenNil ?_ | refine blockNil ?_)
    refine AWp.cond rfl ?_ (fun hc1 => ?_) (fun hc1 => ?_)
    · repeat' (first | exact trivial | exact Bool.not_or_self _ | refine And.intro ?_ ?_ | (simp; done) | (simp_all; done) | (simp [inR_i64] at *; omega))
    · simp at hc1
    · try simp only [decide_eq_true_eq, decide_eq_false_iff_not] at hc1
      refine AWp.skip ?_
      repeat (with_reducible first | refine thenNil ?_ | refine blockNil ?_)
      refine AWp.seq ?_
      refine AWp.seq ?_
      refine AWp.region ?_
      refine AOps.run hT true rfl ?_ ?_
      · repeat' (first | exact trivial | exact Bool.not_or_self _ | refine And.intro ?_ ?_ | (simp; done) | (simp_all; done) | (simp [inR_i64] at *; omega))
      refine AOps.callF (T := T) rfl rfl rfl rfl rfl ?_ (toPairS_fn l hl2) (.inl ⟨by repeat' (first | exact trivial | refine And.intro ?_ ?_ | intro _), by repeat' (first | exact trivial | refine And.intro ?_ ?_ | intro _)⟩) rfl ?_
      · repeat' (first | exact trivial | exact Bool.not_or_self _ | refine And.intro ?_ ?_ | (simp; done) | (simp_all; done) | (simp [inR_i64] at *; omega))
      refine AOps.callF (T := T) rfl rfl rfl rfl rfl ?_ (eqPairS_fn l hl2) (.inl ⟨by repeat' (first | exact trivial | refine And.intro ?_ ?_ | intro _), by repeat' (first | exact trivial | refine And.intro ?_ ?_ | intro _)⟩) rfl ?_
      · repeat' (first | exact trivial | exact Bool.not_or_self _ | refine And.intro ?_ ?_ | (simp; done) | (simp_all; done) | (simp [inR_i64] at *; omega))
      refine AOps.run hT true rfl ?_ ?_
      · repeat' (first | exact trivial | exact Bool.not_or_self _ | refine And.intro ?_ ?_ | (simp; done) | (simp_all; done) | (simp [inR_i64] at *; omega))
      refine AOps.nil ?_
      repeat (with_reducible first | refine thenNil ?_ | refine blockNil ?_)
      refine AWp.cond rfl ?_ (fun hc2 => ?_) (fun hc2 => ?_)
      · repeat' (first | exact trivial | exact Bool.not_or_self _ | refine And.intro ?_ ?_ | (simp; done) | (simp_all; done) | (simp [inR_i64] at *; omega))
      · simp at hc2
      · try simp only [decide_eq_true_eq, decide_eq_false_iff_not] at hc2
        refine AWp.skip ?_
        repeat (with_reducible first | refine thenNil ?_ | refine blockNil ?_)
        refine AWp.seq ?_
        refine AWp.region ?_
        refine AOps.run hT true rfl ?_ ?_
        · repeat' (first | exact trivial | exact Bool.not_or_self _ | refine And.intro ?_ ?_ | (simp; done) | (simp_all; done) | (simp [inR_i64] at *; omega))
        refine AOps.nil ?_
        repeat (with_reducible first | refine thenNil ?_ | refine blockNil ?_)
        refine AWp.ret ?_
        repeat (with_reducible first | refine thenRet ?_ | refine blockRet ?_)
        refine EndsIn.ret rfl ?_ ?_
        · repeat' (first | exact trivial | exact Bool.not_or_self _ | refine And.intro ?_ ?_ | (simp; done) | (simp_all; done) | (simp [inR_i64] at *; omega))
        refine ⟨[], ?_, rfl, rfl, rfl⟩
        rfl

set_option maxRecDepth 20000 in
theorem law9 (l : List (Int × Int)) (p : Int × Int) (hl : l.length ≤ maxLen) : AFn P 9 [lP l, cpair p] (.i (cb true)) [] := by
  refine AFn.of_body Tok 33 Go.Proofs.Try.func9 rfl rfl rfl (by simp) rfl ?_
  rintro ⟨_, _, w0, I0, O0, X0, fx⟩ rfl rfl hT hfx
  refine AWp.seq ?_
  refine AWp.region ?_
  refine AOps.run hT true rfl ?_ ?_
  · repeat' (first | exact trivial | exact Bool.not_or_self _ | refine And.intro ?_ ?_ | (simp; done) | (simp_all; done) | (simp [inR_i64] at *; omega))
  refine AOps.nil ?_
  repeat (with_reducible first | refine thenNil ?_ | refine blockNil ?_)
  refine AWp.seq ?_
  refine AWp.region ?_
  refine AOps.run hT true rfl ?_ ?_
  · repeat' (first | exact trivial | exact Bool.not_or_self _ | refine And.intro ?_ ?_ | (simp; done) | (simp_all; done) | (simp [inR_i64] at *; omega))
  refine AOps.nil ?_
  repeat (with_reducible first | refine thenNil ?_ | refine blockNil ?_)
  refine AWp.seq ?_
  refine AWp.region ?_
  refine AOps.run hT true rfl ?_ ?_
  · repeat' (first | exact trivial | exact Bool.not_or_self _ | refine And.intro ?_ ?_ | (simp; done) | (simp_all; done) | (simp [inR_i64] at *; omega))
  refine AOps.callF (T := T) rfl rfl rfl rfl rfl ?_ (szPairS_fn l hl) (.inl ⟨by repeat' (first | exact trivial | refine And.intro ?_ ?_ | intro _), by repeat' (first | exact trivial | refine And.intro ?_ ?_ | intro _)⟩) rfl ?_
  · repeat' (first | exact trivial | exact Bool.not_or_self _ | refine And.intro ?_ ?_ | (simp; done) | (simp_all; done) | (simp [inR_i64] at *; omega))
  refine AOps.run hT true rfl ?_ ?_
  · repeat' (first | exact trivial | exact Bool.not_or_self _ | refine And.intro ?_ ?_ | (simp; done) | (simp_all; done) | (simp [inR_i64] at *; omega))
  refine AOps.nil ?_
  repeat (with_reducible first | refine thenNil ?_ | refine blockNil ?_)
  refine AWp.seq ?_
  refine AWp.seq ?_
  refine AWp.region ?_
  refine AOps.run hT true rfl ?_ ?_
  · repeat' (first | exact trivial | exact Bool.not_or_self _ | refine And.intro ?_ ?_ | (simp; done) | (simp_all; done) | (simp [inR_i64] at *; omega))
  refine AOps.nil ?_
  repeat (with_reducible first | refine thenNil ?_ | refine blockNil ?_)
  refine AWp.cond rfl ?_ (fun hc0 => ?_) (fun hc0 => ?_)
  · repeat' (first | exact trivial | exact Bool.not_or_self _ | refine And.intro ?_ ?_ | (simp; done) | (simp_all; done) | (simp [inR_i64] at *; omega))
  · try simp only [decide_eq_true_eq, decide_eq_false_iff_not] at hc0
    refine AWp.seq ?_
    refine AWp.region ?_
    refine AOps.run hT true rfl ?_ ?_
    · repeat' (first | exact trivial | exact Bool.not_or_self _ | refine And.intro ?_ ?_ | (simp; done) | (simp_all; done) | (simp [inR_i64] at *; omega))
    refine AOps.nil ?_
    repeat (with_reducible first | refine thenNil ?_ | refine blockNil ?_)
    refine AWp.ret ?_
    repeat (with_reducible first | refine thenRet ?_ | refine blockRet ?_)
    refine EndsIn.ret rfl ?_ ?_
    · repeat' (first | exact trivial | exact Bool.not_or_self _ | refine And.intro ?_ ?_ | (simp; done) | (simp_all; done) | (simp [inR_i64] at *; omega))
    refine ⟨[], ?_, rfl, rfl, rfl⟩
    rfl
  · try simp only [decide_eq_true_eq, decide_eq_false_iff_not] at hc0
    refine AWp.skip ?_
    repeat (with_reducible first | refine thenNil ?_ | refine blockNil ?_)
    refine AWp.seq ?_
    have hl2 : l.length ≤ 1048576 := by split at hc0 <;> omega
    refine AWp.regionAny mixed [[], [0], [], [0, 1, 2], [0, 1, 2, 3], [0, 1, 2, 3, 4]] [1] [_, _, _, _, _, _] [_, _] rfl (by decide) rfl ⟨⟨OpStep.of_astep hT (nw := true) rfl ⟨_, rfl, rfl⟩ ?_, trivial⟩, ⟨OpStep.of_call (T := T) rfl rfl rfl rfl rfl ?_ (toPairS_fn l hl2) (.inl ⟨by repeat' (first | exact trivial | refine And.intro ?_ ?_ | intro _), by repeat' (first | exact trivial | refine And.intro ?_ ?_ | intro _)⟩) rfl, trivial⟩, ⟨OpStep.of_astep hT (nw := true) rfl ⟨_, rfl, rfl⟩ ?_, OpStep.of_astep hT (nw := true) rfl ⟨_, rfl, rfl⟩ ?_, trivial⟩, ⟨OpStep.of_call (T := T) (H2 := []) rfl rfl rfl rfl rfl ?_ (toPair_fn p) (.inl ⟨by repeat' (first | exact trivial | refine And.intro ?_ ?_ | intro _), by repeat' (first | exact trivial | refine And.intro ?_ ?_ | intro _)⟩) rfl, trivial⟩, ⟨OpStep.of_call (T := T) (H2 := []) rfl rfl rfl rfl rfl ?_ (sUniqueSum_fn l p hl2) (.inl ⟨by repeat' (first | exact trivial | refine And.intro ?_ ?_ | intro _), by repeat' (first | exact trivial | refine And.intro ?_ ?_ | intro _)⟩) rfl, trivial⟩, ⟨OpStep.of_astep hT (nw := true) rfl ⟨_, rfl, rfl⟩ ?_, trivial⟩, trivial⟩ ?_
    · repeat' (first | exact trivial | exact Bool.not_or_self _ | refine And.intro ?_ ?_ | (simp; done) | (simp_all; done) | (simp [inR_i64] at *; omega))
    · repeat' (first | exact trivial | exact Bool.not_or_self _ | refine And.intro ?_ ?_ | (simp; done) | (simp_all; done) | (simp [inR_i64] at *; omega))
    · repeat' (first | exact trivial | exact Bool.not_or_self _ | refine And.intro ?_ ?_ | (simp; done) | (simp_all; done) | (simp [inR_i64] at *; omega))
    · repeat' (first | exact trivial | exact Bool.not_or_self _ | refine And.intro ?_ ?_ | (simp; done) | (simp_all; done) | (simp [inR_i64] at *; omega))
    · repeat' (first | exact trivial | exact Bool.not_or_self _ | refine And.intro ?_ ?_ | (simp; done) | (simp_all; done) | (simp [inR_i64] at *; omega))
    · repeat' (first | exact trivial | exact Bool.not_or_self _ | refine And.intro ?_ ?_ | (simp; done) | (simp_all; done) | (simp [inR_i64] at *; omega))
    · repeat' (first | exact trivial | exact Bool.not_or_self _ | refine And.intro ?_ ?_ | (simp; done) | (simp_all; done) | (simp [inR_i64] at *; omega))
    repeat (with_reducible first | refine thenNil ?_ | refine blockNil ?_)
    refine AWp.seq ?_
    refine AWp.region ?_
    refine AOps.run hT true rfl ?_ ?_
    · repeat' (first | exact trivial | exact Bool.not_or_self _ | refine And.intro ?_ ?_ | (simp; done) | (simp_all; done) | (simp [inR_i64] at *; omega))
    refine AOps.callF (T := T) rfl rfl rfl rfl rfl ?_ (toPairS_fn l hl2) (.inl ⟨by repeat' (first | exact trivial | refine And.intro ?_ ?_ | intro _), by repeat' (first | exact trivial | refine And.intro ?_ ?_ | intro _)⟩) rfl ?_
    · repeat' (first | exact trivial | exact Bool.not_or_self _ | refine And.intro ?_ ?_ | (simp; done) | (simp_all; done) | (simp [inR_i64] at *; omega))
    refine AOps.run hT true rfl ?_ ?_
    · repeat' (first | exact trivial | exact Bool.not_or_self _ | refine And.intro ?_ ?_ | (simp; done) | (simp_all; done) | (simp [inR_i64] at *; omega))
    refine AOps.nil ?_
    repeat (with_reducible first | refine thenNil ?_ | refine blockNil ?_)
    refine AWp.seq ?_
    refine AWp.region ?_
    refine AOps.run hT true rfl ?_ ?_
    · repeat' (first | exact trivial | exact Bool.not_or_self _ | refine And.intro ?_ ?_ | (simp; done) | (simp_all; done) | (simp [inR_i64] at *; omega))
    refine AOps.callF (T := T) rfl rfl rfl rfl rfl ?_ (toPair_fn p) (.inl ⟨by repeat' (first | exact trivial | refine And.intro ?_ ?_ | intro _), by repeat' (first | exact trivial | refine And.intro ?_ ?_ | intro _)⟩) rfl ?_
    · repeat' (first | exact trivial | exact Bool.not_or_self _ | refine And.intro ?_ ?_ | (simp; done) | (simp_all; done) | (simp [inR_i64] at *; omega))
    refine AOps.callF (T := T) rfl rfl rfl rfl rfl ?_ (UniqueSum_fn l p hl2) (.inl ⟨by repeat' (first | exact trivial | refine And.intro ?_ ?_ | intro _), by repeat' (first | exact trivial | refine And.intro ?_ ?_ | intro _)⟩) rfl ?_
    · repeat' (first | exact trivial | exact Bool.not_or_self _ | refine And.intro ?_ ?_ | (simp; done) | (simp_all; done) | (simp [inR_i64] at *; omega))
    refine AOps.run hT true rfl ?_ ?_
    · repeat' (first | exact trivial | exact Bool.not_or_self _ | refine And.intro ?_ ?_ | (simp; done) | (simp_all; done) | (simp [inR_i64] at *; omega))
    refine AOps.nil ?_
    repeat (with_reducible first | refine thenNil ?_ | refine blockNil ?_)
    refine AWp.seq ?_
    refine AWp.seq ?_
    refine AWp.region ?_
    refine AOps.run hT true rfl ?_ ?_
    · repeat' (first | exact trivial | exact Bool.not_or_self _ | refine And.intro ?_ ?_ | (simp; done) | (simp_all; done) | (simp [inR_i64] at *; omega))
    refine AOps.nil ?_
    repeat (with_reducible first | refine thenNil ?_ | refine blockNil ?_)
    refine AWp.cond rfl ?_ (fun hc1 => ?_) (fun hc1 => ?_)
    · repeat' (first | exact trivial | exact Bool.not_or_self _ | refine And.intro ?_ ?_ | (simp; done) | (simp_all; done) | (simp [inR_i64] at *; omega))
    · simp at hc1
    · try simp only [decide_eq_true_eq, decide_eq_false_iff_not] at hc1
      refine AWp.skip ?_
      repeat (with_reducible first | refine thenNil ?_ | refine blockNil ?_)
      refine AWp.seq ?_
      refine AWp.seq ?_
      refine AWp.region ?_
      refine AOps.run hT true rfl ?_ ?_
      · repeat' (first | exact trivial | exact Bool.not_or_self _ | refine And.intro ?_ ?_ | (simp; done) | (simp_all; done) | (simp [inR_i64] at *; omega))
      refine AOps.callF (T := T) rfl rfl rfl rfl rfl ?_ (toPairS_fn l hl2) (.inl ⟨by repeat' (first | exact trivial | refine And.intro ?_ ?_ | intro _), by repeat' (first | exact trivial | refine And.intro ?_ ?_ | intro _)⟩) rfl ?_
      · repeat' (first | exact trivial | exact Bool.not_or_self _ | refine And.intro ?_ ?_ | (simp; done) | (simp_all; done) | (simp [inR_i64] at *; omega))
      refine AOps.callF (T := T) rfl rfl rfl rfl rfl ?_ (eqPairS_fn l hl2) (.inl ⟨by repeat' (first | exact trivial | refine And.intro ?_ ?_ | intro _), by repeat' (first | exact trivial | refine And.intro ?_ ?_ | intro _)⟩) rfl ?_
      · repeat' (first | exact trivial | exact Bool.not_or_self _ | refine And.intro ?_ ?_ | (simp; done) | (simp_all; done) | (simp [inR_i64] at *; omega))
      refine AOps.run hT true rfl ?_ ?_
      · repeat' (first | exact trivial | exact Bool.not_or_self _ | refine And.intro ?_ ?_ | (simp; done) | (simp_all; done) | (simp [inR_i64] at *; omega))
      refine AOps.nil ?_
      repeat (with_reducible first | refine thenNil ?_ | refine blockNil ?_)
      refine AWp.cond rfl ?_ (fun hc2 => ?_) (fun hc2 => ?_)
      · repeat' (first | exact trivial | exact Bool.not_or_self _ | refine And.intro ?_ ?_ | (simp; done) | (simp_all; done) | (simp [inR_i64] at *; omega))
      · simp at hc2
      · try simp only [decide_eq_true_eq, decide_eq_false_iff_not] at hc2
        refine AWp.skip ?_
        repeat (with_reducible first | refine thenNil ?_ | refine blockNil ?_)
        refine AWp.seq ?_
        refine AWp.region ?_
        refine AOps.run hT true rfl ?_ ?_
        · repeat' (first | exact trivial | exact Bool.not_or_self _ | refine And.intro ?_ ?_ | (simp; done) | (simp_all; done) | (simp [inR_i64] at *; omega))
        refine AOps.nil ?_
        repeat (with_reducible first | refine thenNil ?_ | refine blockNil ?_)
        refine AWp.ret ?_
        repeat (with_reducible first | refine thenRet ?_ | refine blockRet ?_)
        refine EndsIn.ret rfl ?_ ?_
        · repeat' (first | exact trivial | exact Bool.not_or_self _ | refine And.intro ?_ ?_ | (simp; done) | (simp_all; done) | (simp [inR_i64] at *; omega))
        refine ⟨[], ?_, rfl, rfl, rfl⟩
        rfl

set_option maxRecDepth 20000 in
theorem sNowProduct_fn (l : List (Int × Int)) (hl : l.length ≤ 1048576) : AFn P 53 [lP l] (.osl 0 none) [oP (l.filter (uq vprod l))] := by
  refine AFn.of_body Tok 22 Go.Proofs.Try.func53 rfl rfl rfl (by simp) rfl ?_
  rintro ⟨_, _, w0, I0, O0, X0, fx⟩ rfl rfl hT hfx
  refine AWp.seq ?_
  refine AWp.region ?_
  refine AOps.run hT true rfl ?_ ?_
  · repeat' (first | exact trivial | exact Bool.not_or_self _ | refine And.intro ?_ ?_ | (simp; done) | (simp_all; done) | (simp [inR_i64] at *; omega))
  refine AOps.nil ?_
  repeat (with_reducible first | refine thenNil ?_ | refine blockNil ?_)
  refine AWp.seq ?_
  refine AWp.region ?_
  refine AOps.run hT true rfl ?_ ?_
  · repeat' (first | exact trivial | exact Bool.not_or_self _ | refine And.intro ?_ ?_ | (simp; done) | (simp_all; done) | (simp [inR_i64] at *; omega))
  refine AOps.nil ?_
  repeat (with_reducible first | refine thenNil ?_ | refine blockNil ?_)
  refine AWp.seq ?_
  refine AWp.seq ?_
  refine AWp.region ?_
  refine AOps.run hT true rfl ?_ ?_
  · repeat' (first | exact trivial | exact Bool.not_or_self _ | refine And.intro ?_ ?_ | (simp; done) | (simp_all; done) | (simp [inR_i64] at *; omega))
  refine AOps.nil ?_
  repeat (with_reducible first | refine thenNil ?_ | refine blockNil ?_)
  refine AWp.block ?_
  refine AWp.loopS (σ := Int × List (Int × Int)) (fun (x, out) => (l.length - x).toNat) (fun (x, out) => [(0, .i (lP l)), (3, .osl 0 none), (7, .i (lP l)), (8, .i (ci l.length)), (9, .i (ci x))]) (fun (x, out) => [oP out]) (fun (x, out) => 0 ≤ x ∧ x ≤ l.length ∧ out.length ≤ x ∧ out = (l.take x.toNat).filter (uq vprod l)) ((0, [])) ?_ ?_ ?_
  · refine ⟨?_, ?_, rfl, rfl, fun k hk => Nat.lt_of_lt_of_le (hfx k hk) (Nat.le_of_ble_eq_true rfl)⟩
    · repeat' (first | exact Sub.nil | exact rfl | refine Sub.cons ?_ ?_)
    · repeat' (first | exact HTr.nil | exact objEq_refl _ | exact objEq_app1 | exact objEq_nil | exact objEq_mapP | exact objEq_mapI |  exact objEq_set (by first | omega | (simp; omega)) | exact objEq_appS (by simp) (appF_S rfl (fun _ _ => rfl)) | refine HTr.cons ?_ ?_ | refine HTr.dead rfl ?_)
  · exact ⟨by omega, by omega, by simp, rfl⟩
  rintro ⟨x, out⟩ ⟨h0, h1, h2, h3⟩
  refine AWp.seq ?_
  refine AWp.region ?_
  refine AOps.run hT true rfl ?_ ?_
  · repeat' (first | exact trivial | exact Bool.not_or_self _ | refine And.intro ?_ ?_ | (simp; done) | (simp_all; done) | (simp [inR_i64] at *; omega))
  refine AOps.nil ?_
  repeat (with_reducible first | refine thenNil ?_ | refine blockNil ?_)
  refine AWp.seq ?_
  refine AWp.cond rfl ?_ (fun hc0 => ?_) (fun hc0 => ?_)
  · repeat' (first | exact trivial | exact Bool.not_or_self _ | refine And.intro ?_ ?_ | (simp; done) | (simp_all; done) | (simp [inR_i64] at *; omega))
  · try simp only [decide_eq_true_eq, decide_eq_false_iff_not] at hc0
    refine AWp.skip ?_
    repeat (with_reducible first | refine thenNil ?_ | refine blockNil ?_)
    refine AWp.seq ?_
    refine AWp.block ?_
    refine AWp.seq ?_
    refine AWp.region ?_
    refine AOps.run hT true rfl ?_ ?_
    · repeat' (first | exact trivial | exact Bool.not_or_self _ | refine And.intro ?_ ?_ | (simp; done) | (simp_all; done) | (simp [inR_i64] at *; omega))
    refine AOps.nil ?_
    repeat (with_reducible first | refine thenNil ?_ | refine blockNil ?_)
    refine AWp.seq ?_
    refine AWp.region ?_
    refine AOps.run hT true rfl ?_ ?_
    · repeat' (first | exact trivial | exact Bool.not_or_self _ | refine And.intro ?_ ?_ | (simp; done) | (simp_all; done) | (simp [inR_i64] at *; omega))
    refine AOps.callF (T := T) rfl rfl rfl rfl rfl ?_ (sUniqueProduct_fn l (l.getD x.toNat default) hl) (.inl ⟨by repeat' (first | exact trivial | refine And.intro ?_ ?_ | intro _), by repeat' (first | exact trivial | refine And.intro ?_ ?_ | intro _)⟩) rfl ?_
    · repeat' (first | exact trivial | exact Bool.not_or_self _ | refine And.intro ?_ ?_ | (simp; done) | (simp_all; done) | (simp [inR_i64] at *; omega))
    refine AOps.nil ?_
    repeat (with_reducible first | refine thenNil ?_ | refine blockNil ?_)
    refine AWp.cond rfl ?_ (fun hc1 => ?_) (fun hc1 => ?_)
    · repeat' (first | exact trivial | exact Bool.not_or_self _ | refine And.intro ?_ ?_ | (simp; done) | (simp_all; done) | (simp [inR_i64] at *; omega))
    · try simp only [decide_eq_true_eq, decide_eq_false_iff_not] at hc1
      refine AWp.region ?_
      refine AOps.run hT true rfl ?_ ?_
      · repeat' (first | exact trivial | exact Bool.not_or_self _ | refine And.intro ?_ ?_ | (simp; done) | (simp_all; done) | (simp [inR_i64] at *; omega))
      refine AOps.nil ?_
      repeat (with_reducible first | refine thenNil ?_ | refine blockNil ?_)
      refine AWp.region ?_
      refine AOps.run hT true rfl ?_ ?_
      · repeat' (first | exact trivial | exact Bool.not_or_self _ | refine And.intro ?_ ?_ | (simp; done) | (simp_all; done) | (simp [inR_i64] at *; omega))
      refine AOps.nil ?_
      repeat (with_reducible first | refine thenNil ?_ | refine blockNil ?_)
      refine Exists.intro ((x + 1, out ++ [l.getD x.toNat default])) (And.intro (And.intro ?_ ?_) ?_)
      · simp at *; omega
      · exact ⟨by omega, by omega, by simp; omega, filter_hit h0 hc0 h3 (hc1)⟩
      · refine ⟨?_, ?_, rfl, rfl, fun k hk => Nat.lt_of_lt_of_le (hfx k hk) (Nat.le_of_ble_eq_true rfl)⟩
        · repeat' (first | exact Sub.nil | exact rfl | refine Sub.cons ?_ ?_)
        · repeat' (first | exact HTr.nil | exact objEq_refl _ | exact objEq_app1 | exact objEq_nil | exact objEq_mapP | exact objEq_mapI |  exact objEq_set (by first | omega | (simp; omega)) | exact objEq_appS (by simp) (appF_S rfl (fun _ _ => rfl)) | refine HTr.cons ?_ ?_ | refine HTr.dead rfl ?_)
    · try simp only [decide_eq_true_eq, decide_eq_false_iff_not] at hc1
      refine AWp.skip ?_
      repeat (with_reducible first | refine thenNil ?_ | refine blockNil ?_)
      refine AWp.region ?_
      refine AOps.run hT true rfl ?_ ?_
      · repeat' (first | exact trivial | exact Bool.not_or_self _ | refine And.intro ?_ ?_ | (simp; done) | (simp_all; done) | (simp [inR_i64] at *; omega))
      refine AOps.nil ?_
      repeat (with_reducible first | refine thenNil ?_ | refine blockNil ?_)
      refine Exists.intro ((x + 1, out)) (And.intro (And.intro ?_ ?_) ?_)
      · simp at *; omega
      · exact ⟨by omega, by omega, by omega, filter_miss h0 hc0 h3 (hc1)⟩
      · refine ⟨?_, ?_, rfl, rfl, fun k hk => Nat.lt_of_lt_of_le (hfx k hk) (Nat.le_of_ble_eq_true rfl)⟩
        · repeat' (first | exact Sub.nil | exact rfl | refine Sub.cons ?_ ?_)
        · repeat' (first | exact HTr.nil | exact objEq_refl _ | exact objEq_app1 | exact objEq_nil | exact objEq_mapP | exact objEq_mapI |  exact objEq_set (by first | omega | (simp; omega)) | exact objEq_appS (by simp) (appF_S rfl (fun _ _ => rfl)) | refine HTr.cons ?_ ?_ | refine HTr.dead rfl ?_)
  · try simp only [decide_eq_true_eq, decide_eq_false_iff_not] at hc0
    refine AWp.exit ?_
    repeat (with_reducible first | refine thenExit ?_ | refine blockSame ?_ | refine blockOther rfl ?_ | refine thenNil ?_ | refine blockNil ?_)
    refine AWp.seq ?_
    refine AWp.region ?_
    refine AOps.run hT true rfl ?_ ?_
    · repeat' (first | exact trivial | exact Bool.not_or_self _ | refine And.intro ?_ ?_ | (simp; done) | (simp_all; done) | (simp [inR_i64] at *; omega))
    refine AOps.nil ?_
    repeat (with_reducible first | refine thenNil ?_ | refine blockNil ?_)
    refine AWp.ret ?_
    repeat (with_reducible first | refine thenRet ?_ | refine blockRet ?_)
    refine EndsIn.ret rfl ?_ ?_
    · repeat' (first | exact trivial | exact Bool.not_or_self _ | refine And.intro ?_ ?_ | (simp; done) | (simp_all; done) | (simp [inR_i64] at *; omega))
    refine ⟨[0], rfl, ⟨_, _, _, rfl, rfl, rfl, ?_, rfl⟩, rfl, rfl⟩
    rw [show l.filter (uq vprod l) = out from (filter_end hc0 h3).symm]
    exact objEq_refl _

set_option maxRecDepth 20000 in
theorem sNowSum_fn (l : List (Int × Int)) (hl : l.length ≤ 1048576) : AFn P 54 [lP l] (.osl 0 none) [oP (l.filter (uq vsum l))] := by
  refine AFn.of_body Tok 22 Go.Proofs.Try.func54 rfl rfl rfl (by simp) rfl ?_
  rintro ⟨_, _, w0, I0, O0, X0, fx⟩ rfl rfl hT hfx
  refine AWp.seq ?_
  refine AWp.region ?_
  refine AOps.run hT true rfl ?_ ?_
  · repeat' (first | exact trivial | exact Bool.not_or_self _ | refine And.intro ?_ ?_ | (simp; done) | (simp_all; done) | (simp [inR_i64] at *; omega))
  refine AOps.nil ?_
  repeat (with_reducible first | refine thenNil ?_ | refine blockNil ?_)
  refine AWp.seq ?_
  refine AWp.region ?_
  refine AOps.run hT true rfl ?_ ?_
  · repeat' (first | exact trivial | exact Bool.not_or_self _ | refine And.intro ?_ ?_ | (simp; done) | (simp_all; done) | (simp [inR_i64] at *; omega))
  refine AOps.nil ?_
  repeat (with_reducible first | refine thenNil ?_ | refine blockNil ?_)
  refine AWp.seq ?_
  refine AWp.seq ?_
  refine AWp.region ?_
  refine AOps.run hT true rfl ?_ ?_
  · repeat' (first | exact trivial | exact Bool.not_or_self _ | refine And.intro ?_ ?_ | (simp; done) | (simp_all; done) | (simp [inR_i64] at *; omega))
  refine AOps.nil ?_
  repeat (with_reducible first | refine thenNil ?_ | refine blockNil ?_)
  refine AWp.block ?_
  refine AWp.loopS (σ := Int × List (Int × Int)) (fun (x, out) => (l.length - x).toNat) (fun (x, out) => [(0, .i (lP l)), (3, .osl 0 none), (7, .i (lP l)), (8, .i (ci l.length)), (9, .i (ci x))]) (fun (x, out) => [oP out]) (fun (x, out) => 0 ≤ x ∧ x ≤ l.length ∧ out.length ≤ x ∧ out = (l.take x.toNat).filter (uq vsum l)) ((0, [])) ?_ ?_ ?_
  · refine ⟨?_, ?_, rfl, rfl, fun k hk => Nat.lt_of_lt_of_le (hfx k hk) (Nat.le_of_ble_eq_true rfl)⟩
    · repeat' (first | exact Sub.nil | exact rfl | refine Sub.cons ?_ ?_)
    · repeat' (first | exact HTr.nil | exact objEq_refl _ | exact objEq_app1 | exact objEq_nil | exact objEq_mapP | exact objEq_mapI |  exact objEq_set (by first | omega | (simp; omega)) | exact objEq_appS (by simp) (appF_S rfl (fun _ _ => rfl)) | refine HTr.cons ?_ ?_ | refine HTr.dead rfl ?_)
  · exact ⟨by omega, by omega, by simp, rfl⟩
  rintro ⟨x, out⟩ ⟨h0, h1, h2, h3⟩
  refine AWp.seq ?_
  refine AWp.region ?_
  refine AOps.run hT true rfl ?_ ?_
  · repeat' (first | exact trivial | exact Bool.not_or_self _ | refine And.intro ?_ ?_ | (simp; done) | (simp_all; done) | (simp [inR_i64] at *; omega))
  refine AOps.nil ?_
  repeat (with_reducible first | refine thenNil ?_ | refine blockNil ?_)
  refine AWp.seq ?_
  refine AWp.cond rfl ?_ (fun hc0 => ?_) (fun hc0 => ?_)
  · repeat' (first | exact trivial | exact Bool.not_or_self _ | refine And.intro ?_ ?_ | (simp; done) | (simp_all; done) | (simp [inR_i64] at *; omega))
  · try simp only [decide_eq_true_eq, decide_eq_false_iff_not] at hc0
    refine AWp.skip ?_
    repeat (with_reducible first | refine thenNil ?_ | refine blockNil ?_)
    refine AWp.seq ?_
    refine AWp.block ?_
    refine AWp.seq ?_
    refine AWp.region ?_
    refine AOps.run hT true rfl ?_ ?_
    · repeat' (first | exact trivial | exact Bool.not_or_self _ | refine And.intro ?_ ?_ | (simp; done) | (simp_all; done) | (simp [inR_i64] at *; omega))
    refine AOps.nil ?_
    repeat (with_reducible first | refine thenNil ?_ | refine blockNil ?_)
    refine AWp.seq ?_
    refine AWp.region ?_
    refine AOps.run hT true rfl ?_ ?_
    · repeat' (first | exact trivial | exact Bool.not_or_self _ | refine And.intro ?_ ?_ | (simp; done) | (simp_all; done) | (simp [inR_i64] at *; omega))
    refine AOps.callF (T := T) rfl rfl rfl rfl rfl ?_ (sUniqueSum_fn l (l.getD x.toNat default) hl) (.inl ⟨by repeat' (first | exact trivial | refine And.intro ?_ ?_ | intro _), by repeat' (first | exact trivial | refine And.intro ?_ ?_ | intro _)⟩) rfl ?_
    · repeat' (first | exact trivial | exact Bool.not_or_self _ | refine And.intro ?_ ?_ | (simp; done) | (simp_all; done) | (simp [inR_i64] at *; omega))
    refine AOps.nil ?_
    repeat (with_reducible first | refine thenNil ?_ | refine blockNil ?_)
    refine AWp.cond rfl ?_ (fun hc1 => ?_) (fun hc1 => ?_)
    · repeat' (first | exact trivial | exact Bool.not_or_self _ | refine And.intro ?_ ?_ | (simp; done) | (simp_all; done) | (simp [inR_i64] at *; omega))
    · try simp only [decide_eq_true_eq, decide_eq_false_iff_not] at hc1
      refine AWp.region ?_
      refine AOps.run hT true rfl ?_ ?_
      · repeat' (first | exact trivial | exact Bool.not_or_self _ | refine And.intro ?_ ?_ | (simp; done) | (simp_all; done) | (simp [inR_i64] at *; omega))
      refine AOps.nil ?_
      repeat (with_reducible first | refine thenNil ?_ | refine blockNil ?_)
      refine AWp.region ?_
      refine AOps.run hT true rfl ?_ ?_
      · repeat' (first | exact trivial | exact Bool.not_or_self _ | refine And.intro ?_ ?_ | (simp; done) | (simp_all; done) | (simp [inR_i64] at *; omega))
      refine AOps.nil ?_
      repeat (with_reducible first | refine thenNil ?_ | refine blockNil ?_)
      refine Exists.intro ((x + 1, out ++ [l.getD x.toNat default])) (And.intro (And.intro ?_ ?_) ?_)
      · simp at *; omega
      · exact ⟨by omega, by omega, by simp; omega, filter_hit h0 hc0 h3 (hc1)⟩
      · refine ⟨?_, ?_, rfl, rfl, fun k hk => Nat.lt_of_lt_of_le (hfx k hk) (Nat.le_of_ble_eq_true rfl)⟩
        · repeat' (first | exact Sub.nil | exact rfl | refine Sub.cons ?_ ?_)
        · repeat' (first | exact HTr.nil | exact objEq_refl _ | exact objEq_app1 | exact objEq_nil | exact objEq_mapP | exact objEq_mapI |  exact objEq_set (by first | omega | (simp; omega)) | exact objEq_appS (by simp) (appF_S rfl (fun _ _ => rfl)) | refine HTr.cons ?_ ?_ | refine HTr.dead rfl ?_)
    · try simp only [decide_eq_true_eq, decide_eq_false_iff_not] at hc1
      refine AWp.skip ?_
      repeat (with_reducible first | refine thenNil ?_ | refine blockNil ?_)
      refine AWp.region ?_
      refine AOps.run hT true rfl ?_ ?_
      · repeat' (first | exact trivial | exact Bool.not_or_self _ | refine And.intro ?_ ?_ | (simp; done) | (simp_all; done) | (simp [inR_i64] at *; omega))
      refine AOps.nil ?_
      repeat (with_reducible first | refine thenNil ?_ | refine blockNil ?_)
      refine Exists.intro ((x + 1, out)) (And.intro (And.intro ?_ ?_) ?_)
      · simp at *; omega
      · exact ⟨by omega, by omega, by omega, filter_miss h0 hc0 h3 (hc1)⟩
      · refine ⟨?_, ?_, rfl, rfl, fun k hk => Nat.lt_of_lt_of_le (hfx k hk) (Nat.le_of_ble_eq_true rfl)⟩
        · repeat' (first | exact Sub.nil | exact rfl | refine Sub.cons ?_ ?_)
        · repeat' (first | exact HTr.nil | exact objEq_refl _ | exact objEq_app1 | exact objEq_nil | exact objEq_mapP | exact objEq_mapI |  exact objEq_set (by first | omega | (simp; omega)) | exact objEq_appS (by simp) (appF_S rfl (fun _ _ => rfl)) | refine HTr.cons ?_ ?_ | refine HTr.dead rfl ?_)
  · try simp only [decide_eq_true_eq, decide_eq_false_iff_not] at hc0
    refine AWp.exit ?_
    repeat (with_reducible first | refine thenExit ?_ | refine blockSame ?_ | refine blockOther rfl ?_ | refine thenNil ?_ | refine blockNil ?_)
    refine AWp.seq ?_
    refine AWp.region ?_
    refine AOps.run hT true rfl ?_ ?_
    · repeat' (first | exact trivial | exact Bool.not_or_self _ | refine And.intro ?_ ?_ | (simp; done) | (simp_all; done) | (simp [inR_i64] at *; omega))
    refine AOps.nil ?_
    repeat (with_reducible first | refine thenNil ?_ | refine blockNil ?_)
    refine AWp.ret ?_
    repeat (with_reducible first | refine thenRet ?_ | refine blockRet ?_)
    refine EndsIn.ret rfl ?_ ?_
    · repeat' (first | exact trivial | exact Bool.not_or_self _ | refine And.intro ?_ ?_ | (simp; done) | (simp_all; done) | (simp [inR_i64] at *; omega))
    refine ⟨[0], rfl, ⟨_, _, _, rfl, rfl, rfl, ?_, rfl⟩, rfl, rfl⟩
    rw [show l.filter (uq vsum l) = out from (filter_end hc0 h3).symm]
    exact objEq_refl _

set_option maxRecDepth 20000 in
theorem unique_fn (v : Int × Int → Int) (fv : FuncId) (hv : VFn v fv) (l : List (Int × Int)) (hl : l.length ≤ 1048576) : AFn P 98 [lP l, .clo fv []] (.osl 0 none) [oP (l.filter (uq v l))] := by
  refine AFn.of_body Tok 64 Go.Proofs.Try.func98 rfl rfl rfl (by simp) rfl ?_
  rintro ⟨_, _, w0, I0, O0, X0, fx⟩ rfl rfl hT hfx
  refine AWp.seq ?_
  refine AWp.region ?_
  refine AOps.run hT true rfl ?_ ?_
  · repeat' (first | exact trivial | exact Bool.not_or_self _ | refine And.intro ?_ ?_ | (simp; done) | (simp_all; done) | (simp [inR_i64] at *; omega))
  refine AOps.nil ?_
  repeat (with_reducible first | refine thenNil ?_ | refine blockNil ?_)
  refine AWp.seq ?_
  refine AWp.region ?_
  refine AOps.run hT true rfl ?_ ?_
  · repeat' (first | exact trivial | exact Bool.not_or_self _ | refine And.intro ?_ ?_ | (simp; done) | (simp_all; done) | (simp [inR_i64] at *; omega))
  refine AOps.nil ?_
  repeat (with_reducible first | refine thenNil ?_ | refine blockNil ?_)
  refine AWp.seq ?_
  refine AWp.region ?_
  refine AOps.run hT true rfl ?_ ?_
  · repeat' (first | exact trivial | exact Bool.not_or_self _ | refine And.intro ?_ ?_ | (simp; done) | (simp_all; done) | (simp [inR_i64] at *; omega))
  refine AOps.nil ?_
  repeat (with_reducible first | refine thenNil ?_ | refine blockNil ?_)
  refine AWp.seq ?_
  refine AWp.seq ?_
  refine AWp.region ?_
  refine AOps.run hT true rfl ?_ ?_
  · repeat' (first | exact trivial | exact Bool.not_or_self _ | refine And.intro ?_ ?_ | (simp; done) | (simp_all; done) | (simp [inR_i64] at *; omega))
  refine AOps.nil ?_
  repeat (with_reducible first | refine thenNil ?_ | refine blockNil ?_)
  refine AWp.block ?_
  refine AWp.loopS (σ := Int × (Nat × (Int → Bool) × (Int → Int × Int)) × (Nat × (Int → Bool) × (Int → Int))) (fun (x, _, _) => (l.length - x).toNat) (fun (x, _, _) => [(0, .i (lP l)), (1, .i (.clo fv [])), (5, .omap 0), (6, .omap 1), (16, .i (lP l)), (17, .i (ci l.length)), (18, .i (ci x))]) (fun (x, (c, d, f), (c2, d2, g)) => [mP c d f, mI c2 d2 g]) (fun (x, (c, d, f), (c2, d2, g)) => 0 ≤ x ∧ x ≤ l.length ∧ UI v (l.take x.toNat) d f g) ((0, (0, fun _ => false, fun _ => default), (0, fun _ => false, fun _ => 0))) ?_ ?_ ?_
  · refine ⟨?_, ?_, rfl, rfl, fun k hk => Nat.lt_of_lt_of_le (hfx k hk) (Nat.le_of_ble_eq_true rfl)⟩
    · repeat' (first | exact Sub.nil | exact rfl | refine Sub.cons ?_ ?_)
    · repeat' (first | exact HTr.nil | exact objEq_refl _ | exact objEq_app1 | exact objEq_nil | exact objEq_mapP | exact objEq_mapI |  exact objEq_set (by first | omega | (simp; omega)) | exact objEq_appS (by simp) (appF_S rfl (fun _ _ => rfl)) | refine HTr.cons ?_ ?_ | refine HTr.dead rfl ?_)
  · exact ⟨by omega, by omega, UI.nil⟩
  rintro ⟨x, ⟨c, d, f⟩, ⟨c2, d2, g⟩⟩ ⟨h0, h1, h2⟩
  refine AWp.seq ?_
  refine AWp.region ?_
  refine AOps.run hT true rfl ?_ ?_
  · repeat' (first | exact trivial | exact Bool.not_or_self _ | refine And.intro ?_ ?_ | (simp; done) | (simp_all; done) | (simp [inR_i64] at *; omega))
  refine AOps.nil ?_
  repeat (with_reducible first | refine thenNil ?_ | refine blockNil ?_)
  refine AWp.seq ?_
  refine AWp.cond rfl ?_ (fun hc0 => ?_) (fun hc0 => ?_)
  · repeat' (first | exact trivial | exact Bool.not_or_self _ | refine And.intro ?_ ?_ | (simp; done) | (simp_all; done) | (simp [inR_i64] at *; omega))
  · try simp only [decide_eq_true_eq, decide_eq_false_iff_not] at hc0
    refine AWp.skip ?_
    repeat (with_reducible first | refine thenNil ?_ | refine blockNil ?_)
    refine AWp.seq ?_
    refine AWp.block ?_
    refine AWp.seq ?_
    refine AWp.region ?_
    refine AOps.run hT true rfl ?_ ?_
    · repeat' (first | exact trivial | exact Bool.not_or_self _ | refine And.intro ?_ ?_ | (simp; done) | (simp_all; done) | (simp [inR_i64] at *; omega))
    refine AOps.nil ?_
    repeat (with_reducible first | refine thenNil ?_ | refine blockNil ?_)
    refine AWp.seq ?_
    refine AWp.seq ?_
    refine AWp.region ?_
    refine AOps.run hT true rfl ?_ ?_
    · repeat' (first | exact trivial | exact Bool.not_or_self _ | refine And.intro ?_ ?_ | (simp; done) | (simp_all; done) | (simp [inR_i64] at *; omega))
    refine AOps.callF (T := T) rfl rfl rfl rfl rfl ?_ (hv (l.getD x.toNat default)) (.inl ⟨by repeat' (first | exact trivial | refine And.intro ?_ ?_ | intro _), by repeat' (first | exact trivial | refine And.intro ?_ ?_ | intro _)⟩) rfl ?_
    · repeat' (first | exact trivial | exact Bool.not_or_self _ | refine And.intro ?_ ?_ | (simp; done) | (simp_all; done) | (simp [inR_i64] at *; omega))
    refine AOps.run hT true rfl ?_ ?_
    · repeat' (first | exact trivial | exact Bool.not_or_self _ | refine And.intro ?_ ?_ | (simp; done) | (simp_all; done) | (simp [inR_i64] at *; omega))
    refine AOps.nil ?_
    repeat (with_reducible first | refine thenNil ?_ | refine blockNil ?_)
    refine AWp.seq ?_
    refine AWp.region ?_
    refine AOps.run hT true rfl ?_ ?_
    · repeat' (first | exact trivial | exact Bool.not_or_self _ | refine And.intro ?_ ?_ | (simp; done) | (simp_all; done) | (simp [inR_i64] at *; omega))
    refine AOps.nil ?_
    repeat (with_reducible first | refine thenNil ?_ | refine blockNil ?_)
    refine AWp.cond rfl ?_ (fun hc1 => ?_) (fun hc1 => ?_)
    · repeat' (first | exact trivial | exact Bool.not_or_self _ | refine And.intro ?_ ?_ | (simp; done) | (simp_all; done) | (simp [inR_i64] at *; omega))
    · try simp only [decide_eq_true_eq, decide_eq_false_iff_not] at hc1
      refine AWp.region ?_
      refine AOps.run hT true rfl ?_ ?_
      · repeat' (first | exact trivial | exact Bool.not_or_self _ | refine And.intro ?_ ?_ | (simp; done) | (simp_all; done) | (simp [inR_i64] at *; omega))
      refine AOps.callF (T := T) rfl rfl rfl rfl rfl ?_ (hv (l.getD x.toNat default)) (.inl ⟨by repeat' (first | exact trivial | refine And.intro ?_ ?_ | intro _), by repeat' (first | exact trivial | refine And.intro ?_ ?_ | intro _)⟩) rfl ?_
      · repeat' (first | exact trivial | exact Bool.not_or_self _ | refine And.intro ?_ ?_ | (simp; done) | (simp_all; done) | (simp [inR_i64] at *; omega))
      refine AOps.run hT true rfl ?_ ?_
      · repeat' (first | exact trivial | exact Bool.not_or_self _ | refine And.intro ?_ ?_ | (simp; done) | (simp_all; done) | (simp [inR_i64] at *; omega))
      refine AOps.nil ?_
      repeat (with_reducible first | refine thenNil ?_ | refine blockNil ?_)
      refine AWp.regionAny mixed [[], [], [], [1, 2], [], [0, 1, 2, 3, 4]] [5] [_, _, _, _, _, .any] [_, _] rfl (by decide) rfl ⟨⟨OpStep.of_astep hT (nw := true) rfl ⟨_, rfl, rfl⟩ ?_, trivial⟩, ⟨OpStep.of_astep hT (nw := true) rfl ⟨_, rfl, rfl⟩ ?_, trivial⟩, ⟨OpStep.of_astep hT (nw := true) rfl ⟨_, rfl, rfl⟩ ?_, trivial⟩, ⟨OpStep.of_call (T := T) (H2 := []) rfl rfl rfl rfl rfl ?_ (hv (l.getD x.toNat default)) (.inl ⟨by repeat' (first | exact trivial | refine And.intro ?_ ?_ | intro _), by repeat' (first | exact trivial | refine And.intro ?_ ?_ | intro _)⟩) rfl, trivial⟩, ⟨OpStep.of_astep hT (nw := true) rfl ⟨_, rfl, rfl⟩ ?_, trivial⟩, ⟨OpStep.of_astep hT (nw := true) rfl ⟨_, rfl, rfl⟩ ?_, trivial⟩, trivial⟩ ?_
      · repeat' (first | exact trivial | exact Bool.not_or_self _ | refine And.intro ?_ ?_ | (simp; done) | (simp_all; done) | (simp [inR_i64] at *; omega))
      · repeat' (first | exact trivial | exact Bool.not_or_self _ | refine And.intro ?_ ?_ | (simp; done) | (simp_all; done) | (simp [inR_i64] at *; omega))
      · repeat' (first | exact trivial | exact Bool.not_or_self _ | refine And.intro ?_ ?_ | (simp; done) | (simp_all; done) | (simp [inR_i64] at *; omega))
      · repeat' (first | exact trivial | exact Bool.not_or_self _ | refine And.intro ?_ ?_ | (simp; done) | (simp_all; done) | (simp [inR_i64] at *; omega))
      · repeat' (first | exact trivial | exact Bool.not_or_self _ | refine And.intro ?_ ?_ | (simp; done) | (simp_all; done) | (simp [inR_i64] at *; omega))
      · repeat' (first | exact trivial | exact Bool.not_or_self _ | refine And.intro ?_ ?_ | (simp; done) | (simp_all; done) | (simp [inR_i64] at *; omega))
      repeat (with_reducible first | refine thenNil ?_ | refine blockNil ?_)
      refine AWp.region ?_
      refine AOps.run hT true rfl ?_ ?_
      · repeat' (first | exact trivial | exact Bool.not_or_self _ | refine And.intro ?_ ?_ | (simp; done) | (simp_all; done) | (simp [inR_i64] at *; omega))
      refine AOps.nil ?_
      repeat (with_reducible first | refine thenNil ?_ | refine blockNil ?_)
      refine Exists.intro ((x + 1, (c + cond (d (v (l.getD x.toNat default))) 0 1, fun z => z == v (l.getD x.toNat default) || d z, fun z => if z = v (l.getD x.toNat default) then l.getD x.toNat default else f z), (c2 + cond (d2 (v (l.getD x.toNat default))) 0 1, fun z => z == v (l.getD x.toNat default) || d2 z, fun z => if z = v (l.getD x.toNat default) then 1 else g z))) (And.intro (And.intro ?_ ?_) ?_)
      · simp at *; omega
      · exact ⟨by omega, by omega, by rw [take_succ h0 hc0]; exact h2.hit _ (met_hit hc1).1 (met_hit hc1).2⟩
      · refine ⟨?_, ?_, rfl, rfl, fun k hk => Nat.lt_of_lt_of_le (hfx k hk) (Nat.le_of_ble_eq_true rfl)⟩
        · repeat' (first | exact Sub.nil | exact rfl | refine Sub.cons ?_ ?_)
        · repeat' (first | exact HTr.nil | exact objEq_refl _ | exact objEq_app1 | exact objEq_nil | exact objEq_mapP | exact objEq_mapI |  exact objEq_set (by first | omega | (simp; omega)) | exact objEq_appS (by simp) (appF_S rfl (fun _ _ => rfl)) | refine HTr.cons ?_ ?_ | refine HTr.dead rfl ?_)
    · try simp only [decide_eq_true_eq, decide_eq_false_iff_not] at hc1
      refine AWp.skip ?_
      repeat (with_reducible first | refine thenNil ?_ | refine blockNil ?_)
      refine AWp.regionAny mixed [[], [], [], [1, 2], [], [0, 1, 2, 3, 4]] [5] [_, _, _, _, _, .any] [_, _] rfl (by decide) rfl ⟨⟨OpStep.of_astep hT (nw := true) rfl ⟨_, rfl, rfl⟩ ?_, trivial⟩, ⟨OpStep.of_astep hT (nw := true) rfl ⟨_, rfl, rfl⟩ ?_, trivial⟩, ⟨OpStep.of_astep hT (nw := true) rfl ⟨_, rfl, rfl⟩ ?_, trivial⟩, ⟨OpStep.of_call (T := T) (H2 := []) rfl rfl rfl rfl rfl ?_ (hv (l.getD x.toNat default)) (.inl ⟨by repeat' (first | exact trivial | refine And.intro ?_ ?_ | intro _), by repeat' (first | exact trivial | refine And.intro ?_ ?_ | intro _)⟩) rfl, trivial⟩, ⟨OpStep.of_astep hT (nw := true) rfl ⟨_, rfl, rfl⟩ ?_, trivial⟩, ⟨OpStep.of_astep hT (nw := true) rfl ⟨_, rfl, rfl⟩ ?_, trivial⟩, trivial⟩ ?_
      · repeat' (first | exact trivial | exact Bool.not_or_self _ | refine And.intro ?_ ?_ | (simp; done) | (simp_all; done) | (simp [inR_i64] at *; omega))
      · repeat' (first | exact trivial | exact Bool.not_or_self _ | refine And.intro ?_ ?_ | (simp; done) | (simp_all; done) | (simp [inR_i64] at *; omega))
      · repeat' (first | exact trivial | exact Bool.not_or_self _ | refine And.intro ?_ ?_ | (simp; done) | (simp_all; done) | (simp [inR_i64] at *; omega))
      · repeat' (first | exact trivial | exact Bool.not_or_self _ | refine And.intro ?_ ?_ | (simp; done) | (simp_all; done) | (simp [inR_i64] at *; omega))
      · repeat' (first | exact trivial | exact Bool.not_or_self _ | refine And.intro ?_ ?_ | (simp; done) | (simp_all; done) | (simp [inR_i64] at *; omega))
      · repeat' (first | exact trivial | exact Bool.not_or_self _ | refine And.intro ?_ ?_ | (simp; done) | (simp_all; done) | (simp [inR_i64] at *; omega))
      repeat (with_reducible first | refine thenNil ?_ | refine blockNil ?_)
      refine AWp.region ?_
      refine AOps.run hT true rfl ?_ ?_
      · repeat' (first | exact trivial | exact Bool.not_or_self _ | refine And.intro ?_ ?_ | (simp; done) | (simp_all; done) | (simp [inR_i64] at *; omega))
      refine AOps.nil ?_
      repeat (with_reducible first | refine thenNil ?_ | refine blockNil ?_)
      refine Exists.intro ((x + 1, (c + cond (d (v (l.getD x.toNat default))) 0 1, fun z => z == v (l.getD x.toNat default) || d z, fun z => if z = v (l.getD x.toNat default) then l.getD x.toNat default else f z), (c2, d2, g))) (And.intro (And.intro ?_ ?_) ?_)
      · simp at *; omega
      · exact ⟨by omega, by omega, by rw [take_succ h0 hc0]; exact h2.miss _ (met_miss hc1)⟩
      · refine ⟨?_, ?_, rfl, rfl, fun k hk => Nat.lt_of_lt_of_le (hfx k hk) (Nat.le_of_ble_eq_true rfl)⟩
        · repeat' (first | exact Sub.nil | exact rfl | refine Sub.cons ?_ ?_)
        · repeat' (first | exact HTr.nil | exact objEq_refl _ | exact objEq_app1 | exact objEq_nil | exact objEq_mapP | exact objEq_mapI |  exact objEq_set (by first | omega | (simp; omega)) | exact objEq_appS (by simp) (appF_S rfl (fun _ _ => rfl)) | refine HTr.cons ?_ ?_ | refine HTr.dead rfl ?_)
  · try simp only [decide_eq_true_eq, decide_eq_false_iff_not] at hc0
    refine AWp.exit ?_
    repeat (with_reducible first | refine thenExit ?_ | refine blockSame ?_ | refine blockOther rfl ?_ | refine thenNil ?_ | refine blockNil ?_)
    refine AWp.seq ?_
    refine AWp.region ?_
    refine AOps.run hT true rfl ?_ ?_
    · repeat' (first | exact trivial | exact Bool.not_or_self _ | refine And.intro ?_ ?_ | (simp; done) | (simp_all; done) | (simp [inR_i64] at *; omega))
    refine AOps.nil ?_
    repeat (with_reducible first | refine thenNil ?_ | refine blockNil ?_)
    refine AWp.seq ?_
    refine AWp.seq ?_
    refine AWp.region ?_
    refine AOps.run hT true rfl ?_ ?_
    · repeat' (first | exact trivial | exact Bool.not_or_self _ | refine And.intro ?_ ?_ | (simp; done) | (simp_all; done) | (simp [inR_i64] at *; omega))
    refine AOps.nil ?_
    repeat (with_reducible first | refine thenNil ?_ | refine blockNil ?_)
    refine AWp.block ?_
    refine AWp.adopt (k := 11) 25 2 nilP rfl ?_
    have hU := h2
    rw [take_all hc0] at hU
    refine AWp.loopS (σ := Int × List (Int × Int)) (fun (x, out) => (l.length - x).toNat) (fun (x, out) => [(1, .i (.clo fv [])), (6, .omap 1), (11, .osl 2 none), (46, .i (lP l)), (47, .i (ci l.length)), (48, .i (ci x))]) (fun (x, out) => [mP c d f, mI c2 d2 g, oP out]) (fun (x, out) => 0 ≤ x ∧ x ≤ l.length ∧ out.length ≤ x ∧ out = (l.take x.toNat).filter (uq v l)) ((0, [])) ?_ ?_ ?_
    · refine ⟨?_, ?_, rfl, rfl, fun k hk => Nat.lt_of_lt_of_le (hfx k hk) (Nat.le_of_ble_eq_true rfl)⟩
      · repeat' (first | exact Sub.nil | exact rfl | refine Sub.cons ?_ ?_)
      · repeat' (first | exact HTr.nil | exact objEq_refl _ | exact objEq_app1 | exact objEq_nil | exact objEq_mapP | exact objEq_mapI |  exact objEq_set (by first | omega | (simp; omega)) | exact objEq_appS (by simp) (appF_S rfl (fun _ _ => rfl)) | refine HTr.cons ?_ ?_ | refine HTr.dead rfl ?_)
    · exact ⟨by omega, by omega, by simp, rfl⟩
    rintro ⟨x, out⟩ ⟨h0, h1, h2, h3⟩
    refine AWp.seq ?_
    refine AWp.region ?_
    refine AOps.run hT true rfl ?_ ?_
    · repeat' (first | exact trivial | exact Bool.not_or_self _ | refine And.intro ?_ ?_ | (simp; done) | (simp_all; done) | (simp [inR_i64] at *; omega))
    refine AOps.nil ?_
    repeat (with_reducible first | refine thenNil ?_ | refine blockNil ?_)
    refine AWp.seq ?_
    refine AWp.cond rfl ?_ (fun hc2 => ?_) (fun hc2 => ?_)
    · repeat' (first | exact trivial | exact Bool.not_or_self _ | refine And.intro ?_ ?_ | (simp; done) | (simp_all; done) | (simp [inR_i64] at *; omega))
    · try simp only [decide_eq_true_eq, decide_eq_false_iff_not] at hc2
      refine AWp.skip ?_
      repeat (with_reducible first | refine thenNil ?_ | refine blockNil ?_)
      refine AWp.seq ?_
      refine AWp.block ?_
      refine AWp.seq ?_
      refine AWp.region ?_
      refine AOps.run hT true rfl ?_ ?_
      · repeat' (first | exact trivial | exact Bool.not_or_self _ | refine And.intro ?_ ?_ | (simp; done) | (simp_all; done) | (simp [inR_i64] at *; omega))
      refine AOps.nil ?_
      repeat (with_reducible first | refine thenNil ?_ | refine blockNil ?_)
      refine AWp.seq ?_
      refine AWp.region ?_
      refine AOps.run hT true rfl ?_ ?_
      · repeat' (first | exact trivial | exact Bool.not_or_self _ | refine And.intro ?_ ?_ | (simp; done) | (simp_all; done) | (simp [inR_i64] at *; omega))
      refine AOps.callF (T := T) rfl rfl rfl rfl rfl ?_ (hv (l.getD x.toNat default)) (.inl ⟨by repeat' (first | exact trivial | refine And.intro ?_ ?_ | intro _), by repeat' (first | exact trivial | refine And.intro ?_ ?_ | intro _)⟩) rfl ?_
      · repeat' (first | exact trivial | exact Bool.not_or_self _ | refine And.intro ?_ ?_ | (simp; done) | (simp_all; done) | (simp [inR_i64] at *; omega))
      refine AOps.run hT true rfl ?_ ?_
      · repeat' (first | exact trivial | exact Bool.not_or_self _ | refine And.intro ?_ ?_ | (simp; done) | (simp_all; done) | (simp [inR_i64] at *; omega))
      refine AOps.nil ?_
      repeat (with_reducible first | refine thenNil ?_ | refine blockNil ?_)
      refine AWp.cond rfl ?_ (fun hc3 => ?_) (fun hc3 => ?_)
      · repeat' (first | exact trivial | exact Bool.not_or_self _ | refine And.intro ?_ ?_ | (simp; done) | (simp_all; done) | (simp [inR_i64] at *; omega))
      · try simp only [decide_eq_true_eq, decide_eq_false_iff_not] at hc3
        refine AWp.region ?_
        refine AOps.run hT true rfl ?_ ?_
        · repeat' (first | exact trivial | exact Bool.not_or_self _ | refine And.intro ?_ ?_ | (simp; done) | (simp_all; done) | (simp [inR_i64] at *; omega))
        refine AOps.nil ?_
        repeat (with_reducible first | refine thenNil ?_ | refine blockNil ?_)
        refine AWp.region ?_
        refine AOps.run hT true rfl ?_ ?_
        · repeat' (first | exact trivial | exact Bool.not_or_self _ | refine And.intro ?_ ?_ | (simp; done) | (simp_all; done) | (simp [inR_i64] at *; omega))
        refine AOps.nil ?_
        repeat (with_reducible first | refine thenNil ?_ | refine blockNil ?_)
        refine Exists.intro ((x + 1, out ++ [l.getD x.toNat default])) (And.intro (And.intro ?_ ?_) ?_)
        · simp at *; omega
        · exact ⟨by omega, by omega, by simp; omega, filter_hit h0 hc2 h3 ((UI.end hU (mem_take h0 hc2)).symm.trans hc3)⟩
        · refine ⟨?_, ?_, rfl, rfl, fun k hk => Nat.lt_of_lt_of_le (hfx k hk) (Nat.le_of_ble_eq_true rfl)⟩
          · repeat' (first | exact Sub.nil | exact rfl | refine Sub.cons ?_ ?_)
          · repeat' (first | exact HTr.nil | exact objEq_refl _ | exact objEq_app1 | exact objEq_nil | exact objEq_mapP | exact objEq_mapI |  exact objEq_set (by first | omega | (simp; omega)) | exact objEq_appS (by simp) (appF_S rfl (fun _ _ => rfl)) | refine HTr.cons ?_ ?_ | refine HTr.dead rfl ?_)
      · try simp only [decide_eq_true_eq, decide_eq_false_iff_not] at hc3
        refine AWp.skip ?_
        repeat (with_reducible first | refine thenNil ?_ | refine blockNil ?_)
        refine AWp.region ?_
        refine AOps.run hT true rfl ?_ ?_
        · repeat' (first | exact trivial | exact Bool.not_or_self _ | refine And.intro ?_ ?_ | (simp; done) | (simp_all; done) | (simp [inR_i64] at *; omega))
        refine AOps.nil ?_
        repeat (with_reducible first | refine thenNil ?_ | refine blockNil ?_)
        refine Exists.intro ((x + 1, out)) (And.intro (And.intro ?_ ?_) ?_)
        · simp at *; omega
        · exact ⟨by omega, by omega, by omega, filter_miss h0 hc2 h3 ((UI.end hU (mem_take h0 hc2)).symm.trans hc3)⟩
        · refine ⟨?_, ?_, rfl, rfl, fun k hk => Nat.lt_of_lt_of_le (hfx k hk) (Nat.le_of_ble_eq_true rfl)⟩
          · repeat' (first | exact Sub.nil | exact rfl | refine Sub.cons ?_ ?_)
          · repeat' (first | exact HTr.nil | exact objEq_refl _ | exact objEq_app1 | exact objEq_nil | exact objEq_mapP | exact objEq_mapI |  exact objEq_set (by first | omega | (simp; omega)) | exact objEq_appS (by simp) (appF_S rfl (fun _ _ => rfl)) | refine HTr.cons ?_ ?_ | refine HTr.dead rfl ?_)
    · try simp only [decide_eq_true_eq, decide_eq_false_iff_not] at hc2
      refine AWp.exit ?_
      repeat (with_reducible first | refine thenExit ?_ | refine blockSame ?_ | refine blockOther rfl ?_ | refine thenNil ?_ | refine blockNil ?_)
      refine AWp.seq ?_
      refine AWp.region ?_
      refine AOps.run hT true rfl ?_ ?_
      · repeat' (first | exact trivial | exact Bool.not_or_self _ | refine And.intro ?_ ?_ | (simp; done) | (simp_all; done) | (simp [inR_i64] at *; omega))
      refine AOps.nil ?_
      repeat (with_reducible first | refine thenNil ?_ | refine blockNil ?_)
      refine AWp.ret ?_
      repeat (with_reducible first | refine thenRet ?_ | refine blockRet ?_)
      refine EndsIn.ret rfl ?_ ?_
      · repeat' (first | exact trivial | exact Bool.not_or_self _ | refine And.intro ?_ ?_ | (simp; done) | (simp_all; done) | (simp [inR_i64] at *; omega))
      refine ⟨[2], rfl, ⟨_, _, _, rfl, rfl, rfl, ?_, rfl⟩, rfl, rfl⟩
      rw [show l.filter (uq v l) = out from (filter_end hc2 h3).symm]
      exact objEq_refl _

set_option maxRecDepth 20000 in
theorem NowProduct_fn (l : List (Int × Int)) (hl : l.length ≤ 1048576) : AFn P 50 [lP l] (.osl 0 none) [oP (l.filter (uq vprod l))] := by
  refine AFn.of_body Tok 5 Go.Proofs.Try.func50 rfl rfl rfl (by simp) rfl ?_
  rintro ⟨_, _, w0, I0, O0, X0, fx⟩ rfl rfl hT hfx
  refine AWp.seq ?_
  refine AWp.region ?_
  refine AOps.run hT true rfl ?_ ?_
  · repeat' (first | exact trivial | exact Bool.not_or_self _ | refine And.intro ?_ ?_ | (simp; done) | (simp_all; done) | (simp [inR_i64] at *; omega))
  refine AOps.nil ?_
  repeat (with_reducible first | refine thenNil ?_ | refine blockNil ?_)
  refine AWp.seq ?_
  refine AWp.region ?_
  refine AOps.run hT true rfl ?_ ?_
  · repeat' (first | exact trivial | exact Bool.not_or_self _ | refine And.intro ?_ ?_ | (simp; done) | (simp_all; done) | (simp [inR_i64] at *; omega))
  refine AOps.callF (T := T) rfl rfl rfl rfl rfl ?_ (unique_fn vprod 94 product_fn l hl) (.inl ⟨by repeat' (first | exact trivial | refine And.intro ?_ ?_ | intro _), by repeat' (first | exact trivial | refine And.intro ?_ ?_ | intro _)⟩) rfl ?_
  · repeat' (first | exact trivial | exact Bool.not_or_self _ | refine And.intro ?_ ?_ | (simp; done) | (simp_all; done) | (simp [inR_i64] at *; omega))
  refine AOps.run hT true rfl ?_ ?_
  · repeat' (first | exact trivial | exact Bool.not_or_self _ | refine And.intro ?_ ?_ | (simp; done) | (simp_all; done) | (simp [inR_i64] at *; omega))
  refine AOps.nil ?_
  repeat (with_reducible first | refine thenNil ?_ | refine blockNil ?_)
  refine AWp.ret ?_
  repeat (with_reducible first | refine thenRet ?_ | refine blockRet ?_)
  refine EndsIn.ret rfl ?_ ?_
  · repeat' (first | exact trivial | exact Bool.not_or_self _ | refine And.intro ?_ ?_ | (simp; done) | (simp_all; done) | (simp [inR_i64] at *; omega))
  refine ⟨[0], rfl, ⟨_, _, _, rfl, rfl, rfl, ?_, rfl⟩, rfl, rfl⟩
  exact objEq_refl _

set_option maxRecDepth 20000 in
theorem NowSum_fn (l : List (Int × Int)) (hl : l.length ≤ 1048576) : AFn P 51 [lP l] (.osl 0 none) [oP (l.filter (uq vsum l))] := by
  refine AFn.of_body Tok 5 Go.Proofs.Try.func51 rfl rfl rfl (by simp) rfl ?_
  rintro ⟨_, _, w0, I0, O0, X0, fx⟩ rfl rfl hT hfx
  refine AWp.seq ?_
  refine AWp.region ?_
  refine AOps.run hT true rfl ?_ ?_
  · repeat' (first | exact trivial | exact Bool.not_or_self _ | refine And.intro ?_ ?_ | (simp; done) | (simp_all; done) | (simp [inR_i64] at *; omega))
  refine AOps.nil ?_
  repeat (with_reducible first | refine thenNil ?_ | refine blockNil ?_)
  refine AWp.seq ?_
  refine AWp.region ?_
  refine AOps.run hT true rfl ?_ ?_
  · repeat' (first | exact trivial | exact Bool.not_or_self _ | refine And.intro ?_ ?_ | (simp; done) | (simp_all; done) | (simp [inR_i64] at *; omega))
  refine AOps.callF (T := T) rfl rfl rfl rfl rfl ?_ (unique_fn vsum 95 sum_fn l hl) (.inl ⟨by repeat' (first | exact trivial | refine And.intro ?_ ?_ | intro _), by repeat' (first | exact trivial | refine And.intro ?_ ?_ | intro _)⟩) rfl ?_
  · repeat' (first | exact trivial | exact Bool.not_or_self _ | refine And.intro ?_ ?_ | (simp; done) | (simp_all; done) | (simp [inR_i64] at *; omega))
  refine AOps.run hT true rfl ?_ ?_
  · repeat' (first | exact trivial | exact Bool.not_or_self _ | refine And.intro ?_ ?_ | (simp; done) | (simp_all; done) | (simp [inR_i64] at *; omega))
  refine AOps.nil ?_
  repeat (with_reducible first | refine thenNil ?_ | refine blockNil ?_)
  refine AWp.ret ?_
  repeat (with_reducible first | refine thenRet ?_ | refine blockRet ?_)
  refine EndsIn.ret rfl ?_ ?_
  · repeat' (first | exact trivial | exact Bool.not_or_self _ | refine And.intro ?_ ?_ | (simp; done) | (simp_all; done) | (simp [inR_i64] at *; omega))
  refine ⟨[0], rfl, ⟨_, _, _, rfl, rfl, rfl, ?_, rfl⟩, rfl, rfl⟩
  exact objEq_refl _

set_option maxRecDepth 20000 in
set_option maxHeartbeats 2000000 in
theorem law11 (l : List (Int × Int)) (hl : l.length ≤ maxLen) : AFn P 11 [lP l] (.i (cb true)) [] := by
  refine AFn.of_body Tok 69 Go.Proofs.Try.func11 rfl rfl rfl (by simp) rfl ?_
  rintro ⟨_, _, w0, I0, O0, X0, fx⟩ rfl rfl hT hfx
  refine AWp.seq ?_
  refine AWp.region ?_
  refine AOps.run hT true rfl ?_ ?_
  · repeat' (first | exact trivial | exact Bool.not_or_self _ | refine And.intro ?_ ?_ | (simp; done) | (simp_all; done) | (simp [inR_i64] at *; omega))
  refine AOps.nil ?_
  repeat (with_reducible first | refine thenNil ?_ | refine blockNil ?_)
  refine AWp.seq ?_
  refine AWp.region ?_
  refine AOps.run hT true rfl ?_ ?_
  · repeat' (first | exact trivial | exact Bool.not_or_self _ | refine And.intro ?_ ?_ | (simp; done) | (simp_all; done) | (simp [inR_i64] at *; omega))
  refine AOps.nil ?_
  repeat (with_reducible first | refine thenNil ?_ | refine blockNil ?_)
  refine AWp.seq ?_
  refine AWp.region ?_
  refine AOps.run hT true rfl ?_ ?_
  · repeat' (first | exact trivial | exact Bool.not_or_self _ | refine And.intro ?_ ?_ | (simp; done) | (simp_all; done) | (simp [inR_i64] at *; omega))
  refine AOps.callF (T := T) rfl rfl rfl rfl rfl ?_ (szPairS_fn l hl) (.inl ⟨by repeat' (first | exact trivial | refine And.intro ?_ ?_ | intro _), by repeat' (first | exact trivial | refine And.intro ?_ ?_ | intro _)⟩) rfl ?_
  · repeat' (first | exact trivial | exact Bool.not_or_self _ | refine And.intro ?_ ?_ | (simp; done) | (simp_all; done) | (simp [inR_i64] at *; omega))
  refine AOps.run hT true rfl ?_ ?_
  · repeat' (first | exact trivial | exact Bool.not_or_self _ | refine And.intro ?_ ?_ | (simp; done) | (simp_all; done) | (simp [inR_i64] at *; omega))
  refine AOps.nil ?_
  repeat (with_reducible first | refine thenNil ?_ | refine blockNil ?_)
  refine AWp.seq ?_
  refine AWp.seq ?_
  refine AWp.region ?_
  refine AOps.run hT true rfl ?_ ?_
  · repeat' (first | exact trivial | exact Bool.not_or_self _ | refine And.intro ?_ ?_ | (simp; done) | (simp_all; done) | (simp [inR_i64] at *; omega))
  refine AOps.nil ?_
  repeat (with_reducible first | refine thenNil ?_ | refine blockNil ?_)
  refine AWp.cond rfl ?_ (fun hc0 => ?_) (fun hc0 => ?_)
  · repeat' (first | exact trivial | exact Bool.not_or_self _ | refine And.intro ?_ ?_ | (simp; done) | (simp_all; done) | (simp [inR_i64] at *; omega))
  · try simp only [decide_eq_true_eq, decide_eq_false_iff_not] at hc0
    refine AWp.seq ?_
    refine AWp.region ?_
    refine AOps.run hT true rfl ?_ ?_
    · repeat' (first | exact trivial | exact Bool.not_or_self _ | refine And.intro ?_ ?_ | (simp; done) | (simp_all; done) | (simp [inR_i64] at *; omega))
    refine AOps.nil ?_
    repeat (with_reducible first | refine thenNil ?_ | refine blockNil ?_)
    refine AWp.ret ?_
    repeat (with_reducible first | refine thenRet ?_ | refine blockRet ?_)
    refine EndsIn.ret rfl ?_ ?_
    · repeat' (first | exact trivial | exact Bool.not_or_self _ | refine And.intro ?_ ?_ | (simp; done) | (simp_all; done) | (simp [inR_i64] at *; omega))
    refine ⟨[], ?_, rfl, rfl, rfl⟩
    rfl
  · try simp only [decide_eq_true_eq, decide_eq_false_iff_not] at hc0
    refine AWp.skip ?_
    repeat (with_reducible first | refine thenNil ?_ | refine blockNil ?_)
    refine AWp.seq ?_
    have hl2 : l.length ≤ 1048576 := by split at hc0 <;> omega
    have hl3 : (l.filter (uq vprod l)).length ≤ 1048576 := filter_len hl2
    refine AWp.region ?_
    refine AOps.run hT true rfl ?_ ?_
    · repeat' (first | exact trivial | exact Bool.not_or_self _ | refine And.intro ?_ ?_ | (simp; done) | (simp_all; done) | (simp [inR_i64] at *; omega))
    refine AOps.callF (T := T) rfl rfl rfl rfl rfl ?_ (toPairS_fn l hl2) (.inl ⟨by repeat' (first | exact trivial | refine And.intro ?_ ?_ | intro _), by repeat' (first | exact trivial | refine And.intro ?_ ?_ | intro _)⟩) rfl ?_
    · repeat' (first | exact trivial | exact Bool.not_or_self _ | refine And.intro ?_ ?_ | (simp; done) | (simp_all; done) | (simp [inR_i64] at *; omega))
    refine AOps.callF (T := T) rfl rfl rfl rfl rfl ?_ (sNowProduct_fn l hl2) (.inl ⟨by repeat' (first | exact trivial | refine And.intro ?_ ?_ | intro _), by repeat' (first | exact trivial | refine And.intro ?_ ?_ | intro _)⟩) rfl ?_
    · repeat' (first | exact trivial | exact Bool.not_or_self _ | refine And.intro ?_ ?_ | (simp; done) | (simp_all; done) | (simp [inR_i64] at *; omega))
    refine AOps.run hT true rfl ?_ ?_
    · repeat' (first | exact trivial | exact Bool.not_or_self _ | refine And.intro ?_ ?_ | (simp; done) | (simp_all; done) | (simp [inR_i64] at *; omega))
    refine AOps.nil ?_
    repeat (with_reducible first | refine thenNil ?_ | refine blockNil ?_)
    refine AWp.seq ?_
    refine AWp.region ?_
    refine AOps.run hT true rfl ?_ ?_
    · repeat' (first | exact trivial | exact Bool.not_or_self _ | refine And.intro ?_ ?_ | (simp; done) | (simp_all; done) | (simp [inR_i64] at *; omega))
    refine AOps.callF (T := T) rfl rfl rfl rfl rfl ?_ (toPairS_fn l hl2) (.inl ⟨by repeat' (first | exact trivial | refine And.intro ?_ ?_ | intro _), by repeat' (first | exact trivial | refine And.intro ?_ ?_ | intro _)⟩) rfl ?_
    · repeat' (first | exact trivial | exact Bool.not_or_self _ | refine And.intro ?_ ?_ | (simp; done) | (simp_all; done) | (simp [inR_i64] at *; omega))
    refine AOps.run hT true rfl ?_ ?_
    · repeat' (first | exact trivial | exact Bool.not_or_self _ | refine And.intro ?_ ?_ | (simp; done) | (simp_all; done) | (simp [inR_i64] at *; omega))
    refine AOps.nil ?_
    repeat (with_reducible first | refine thenNil ?_ | refine blockNil ?_)
    refine AWp.seq ?_
    refine AWp.region ?_
    refine AOps.run hT true rfl ?_ ?_
    · repeat' (first | exact trivial | exact Bool.not_or_self _ | refine And.intro ?_ ?_ | (simp; done) | (simp_all; done) | (simp [inR_i64] at *; omega))
    refine AOps.callF (T := T) rfl rfl rfl rfl rfl ?_ (NowProduct_fn l hl2) (.inl ⟨by repeat' (first | exact trivial | refine And.intro ?_ ?_ | intro _), by repeat' (first | exact trivial | refine And.intro ?_ ?_ | intro _)⟩) rfl ?_
    · repeat' (first | exact trivial | exact Bool.not_or_self _ | refine And.intro ?_ ?_ | (simp; done) | (simp_all; done) | (simp [inR_i64] at *; omega))
    refine AOps.run hT true rfl ?_ ?_
    · repeat' (first | exact trivial | exact Bool.not_or_self _ | refine And.intro ?_ ?_ | (simp; done) | (simp_all; done) | (simp [inR_i64] at *; omega))
    refine AOps.nil ?_
    repeat (with_reducible first | refine thenNil ?_ | refine blockNil ?_)
    refine AWp.seq ?_
    refine AWp.seq ?_
    refine AWp.region ?_
    refine AOps.run hT true rfl ?_ ?_
    · repeat' (first | exact trivial | exact Bool.not_or_self _ | refine And.intro ?_ ?_ | (simp; done) | (simp_all; done) | (simp [inR_i64] at *; omega))
    refine AOps.callF (T := T) rfl rfl rfl rfl rfl ?_ (eqPairS_fn (l.filter (uq vprod l)) hl3) (.inl ⟨by repeat' (first | exact trivial | refine And.intro ?_ ?_ | intro _), by repeat' (first | exact trivial | refine And.intro ?_ ?_ | intro _)⟩) rfl ?_
    · repeat' (first | exact trivial | exact Bool.not_or_self _ | refine And.intro ?_ ?_ | (simp; done) | (simp_all; done) | (simp [inR_i64] at *; omega))
    refine AOps.run hT true rfl ?_ ?_
    · repeat' (first | exact trivial | exact Bool.not_or_self _ | refine And.intro ?_ ?_ | (simp; done) | (simp_all; done) | (simp [inR_i64] at *; omega))
    refine AOps.nil ?_
    repeat (with_reducible first | refine thenNil ?_ | refine blockNil ?_)
    refine AWp.cond rfl ?_ (fun hc1 => ?_) (fun hc1 => ?_)
    · repeat' (first | exact trivial | exact Bool.not_or_self _ | refine And.intro ?_ ?_ | (simp; done) | (simp_all; done) | (simp [inR_i64] at *; omega))
    · simp at hc1
    · try simp only [decide_eq_true_eq, decide_eq_false_iff_not] at hc1
      refine AWp.skip ?_
      repeat (with_reducible first | refine thenNil ?_ | refine blockNil ?_)
      refine AWp.seq ?_
      refine AWp.seq ?_
      refine AWp.region ?_
      refine AOps.run hT true rfl ?_ ?_
      · repeat' (first | exact trivial | exact Bool.not_or_self _ | refine And.intro ?_ ?_ | (simp; done) | (simp_all; done) | (simp [inR_i64] at *; omega))
      refine AOps.callF (T := T) rfl rfl rfl rfl rfl ?_ (toPairS_fn l hl2) (.inl ⟨by repeat' (first | exact trivial | refine And.intro ?_ ?_ | intro _), by repeat' (first | exact trivial | refine And.intro ?_ ?_ | intro _)⟩) rfl ?_
      · repeat' (first | exact trivial | exact Bool.not_or_self _ | refine And.intro ?_ ?_ | (simp; done) | (simp_all; done) | (simp [inR_i64] at *; omega))
      refine AOps.callF (T := T) rfl rfl rfl rfl rfl ?_ (eqPairS_fn l hl2) (.inl ⟨by repeat' (first | exact trivial | refine And.intro ?_ ?_ | intro _), by repeat' (first | exact trivial | refine And.intro ?_ ?_ | intro _)⟩) rfl ?_
      · repeat' (first | exact trivial | exact Bool.not_or_self _ | refine And.intro ?_ ?_ | (simp; done) | (simp_all; done) | (simp [inR_i64] at *; omega))
      refine AOps.run hT true rfl ?_ ?_
      · repeat' (first | exact trivial | exact Bool.not_or_self _ | refine And.intro ?_ ?_ | (simp; done) | (simp_all; done) | (simp [inR_i64] at *; omega))
      refine AOps.nil ?_
      repeat (with_reducible first | refine thenNil ?_ | refine blockNil ?_)
      refine AWp.cond rfl ?_ (fun hc2 => ?_) (fun hc2 => ?_)
      · repeat' (first | exact trivial | exact Bool.not_or_self _ | refine And.intro ?_ ?_ | (simp; done) | (simp_all; done) | (simp [inR_i64] at *; omega))
      · simp at hc2
      · try simp only [decide_eq_true_eq, decide_eq_false_iff_not] at hc2
        refine AWp.skip ?_
        repeat (with_reducible first | refine thenNil ?_ | refine blockNil ?_)
        refine AWp.seq ?_
        refine AWp.region ?_
        refine AOps.run hT true rfl ?_ ?_
        · repeat' (first | exact trivial | exact Bool.not_or_self _ | refine And.intro ?_ ?_ | (simp; done) | (simp_all; done) | (simp [inR_i64] at *; omega))
        refine AOps.nil ?_
        repeat (with_reducible first | refine thenNil ?_ | refine blockNil ?_)
        refine AWp.seq ?_
        refine AWp.region ?_
        refine AOps.run hT true rfl ?_ ?_
        · repeat' (first | exact trivial | exact Bool.not_or_self _ | refine And.intro ?_ ?_ | (simp; done) | (simp_all; done) | (simp [inR_i64] at *; omega))
        refine AOps.callH (T := T) [2] rfl rfl rfl rfl rfl rfl ?_ (markPairS_fn l hl2) (.inl ⟨by repeat' (first | exact trivial | refine And.intro ?_ ?_ | intro _), by repeat' (first | exact trivial | refine And.intro ?_ ?_ | intro _)⟩) rfl rfl ?_
        · repeat' (first | exact trivial | exact Bool.not_or_self _ | refine And.intro ?_ ?_ | (simp; done) | (simp_all; done) | (simp [inR_i64] at *; omega))
        refine AOps.run hT true rfl ?_ ?_
        · repeat' (first | exact trivial | exact Bool.not_or_self _ | refine And.intro ?_ ?_ | (simp; done) | (simp_all; done) | (simp [inR_i64] at *; omega))
        refine AOps.nil ?_
        repeat (with_reducible first | refine thenNil ?_ | refine blockNil ?_)
        refine AWp.seq ?_
        refine AWp.seq ?_
        refine AWp.region ?_
        refine AOps.run hT true rfl ?_ ?_
        · repeat' (first | exact trivial | exact Bool.not_or_self _ | refine And.intro ?_ ?_ | (simp; done) | (simp_all; done) | (simp [inR_i64] at *; omega))
        refine AOps.callG (T := T) rfl rfl rfl rfl rfl (fun hg => ?_) (fun hg => eqPairS_fn (l.filter (uq vprod l)) hl3) (.inl (by repeat' (first | exact trivial | refine And.intro ?_ ?_ | intro _))) rfl ?_
        · repeat' (first | exact trivial | exact Bool.not_or_self _ | refine And.intro ?_ ?_ | (simp; done) | (simp_all; done) | (simp [inR_i64] at *; omega))
        refine AOps.run hT true rfl ?_ ?_
        · repeat' (first | exact trivial | exact Bool.not_or_self _ | refine And.intro ?_ ?_ | (simp; done) | (simp_all; done) | (simp [inR_i64] at *; omega))
        refine AOps.nil ?_
        repeat (with_reducible first | refine thenNil ?_ | refine blockNil ?_)
        refine AWp.cond rfl ?_ (fun hc3 => ?_) (fun hc3 => ?_)
        · repeat' (first | exact trivial | exact Bool.not_or_self _ | refine And.intro ?_ ?_ | (simp; done) | (simp_all; done) | (simp [inR_i64] at *; omega))
        · simp at hc3 <;> omega
        · try simp only [decide_eq_true_eq, decide_eq_false_iff_not] at hc3
          refine AWp.skip ?_
          repeat (with_reducible first | refine thenNil ?_ | refine blockNil ?_)
          refine AWp.seq ?_
          refine AWp.region ?_
          refine AOps.run hT true rfl ?_ ?_
          · repeat' (first | exact trivial | exact Bool.not_or_self _ | refine And.intro ?_ ?_ | (simp; done) | (simp_all; done) | (simp [inR_i64] at *; omega))
          refine AOps.nil ?_
          repeat (with_reducible first | refine thenNil ?_ | refine blockNil ?_)
          refine AWp.seq ?_
          refine AWp.region ?_
          refine AOps.run hT true rfl ?_ ?_
          · repeat' (first | exact trivial | exact Bool.not_or_self _ | refine And.intro ?_ ?_ | (simp; done) | (simp_all; done) | (simp [inR_i64] at *; omega))
          refine AOps.callH (T := T) [3] rfl rfl rfl rfl rfl rfl ?_ (markPairS_fn (l.filter (uq vprod l)) hl3) (.inl ⟨by repeat' (first | exact trivial | refine And.intro ?_ ?_ | intro _), by repeat' (first | exact trivial | refine And.intro ?_ ?_ | intro _)⟩) rfl rfl ?_
          · repeat' (first | exact trivial | exact Bool.not_or_self _ | refine And.intro ?_ ?_ | (simp; done) | (simp_all; done) | (simp [inR_i64] at *; omega))
          refine AOps.run hT true rfl ?_ ?_
          · repeat' (first | exact trivial | exact Bool.not_or_self _ | refine And.intro ?_ ?_ | (simp; done) | (simp_all; done) | (simp [inR_i64] at *; omega))
          refine AOps.nil ?_
          repeat (with_reducible first | refine thenNil ?_ | refine blockNil ?_)
          refine AWp.seq ?_
          refine AWp.region ?_
          refine AOps.run hT true rfl ?_ ?_
          · repeat' (first | exact trivial | exact Bool.not_or_self _ | refine And.intro ?_ ?_ | (simp; done) | (simp_all; done) | (simp [inR_i64] at *; omega))
          refine AOps.nil ?_
          repeat (with_reducible first | refine thenNil ?_ | refine blockNil ?_)
          refine AWp.seq ?_
          refine AWp.region ?_
          refine AOps.run hT true rfl ?_ ?_
          · repeat' (first | exact trivial | exact Bool.not_or_self _ | refine And.intro ?_ ?_ | (simp; done) | (simp_all; done) | (simp [inR_i64] at *; omega))
          refine AOps.callF (T := T) rfl rfl rfl rfl rfl ?_ (heldPairS_fn (l.filter (uq vprod l)).length hl3) (.inl ⟨by repeat' (first | exact trivial | refine And.intro ?_ ?_ | intro _), by repeat' (first | exact trivial | refine And.intro ?_ ?_ | intro _)⟩) rfl ?_
          · repeat' (first | exact trivial | exact Bool.not_or_self _ | refine And.intro ?_ ?_ | (simp; done) | (simp_all; done) | (simp [inR_i64] at *; omega))
          refine AOps.run hT true rfl ?_ ?_
          · repeat' (first | exact trivial | exact Bool.not_or_self _ | refine And.intro ?_ ?_ | (simp; done) | (simp_all; done) | (simp [inR_i64] at *; omega))
          refine AOps.nil ?_
          repeat (with_reducible first | refine thenNil ?_ | refine blockNil ?_)
          refine AWp.seq ?_
          refine AWp.seq ?_
          refine AWp.region ?_
          refine AOps.run hT true rfl ?_ ?_
          · repeat' (first | exact trivial | exact Bool.not_or_self _ | refine And.intro ?_ ?_ | (simp; done) | (simp_all; done) | (simp [inR_i64] at *; omega))
          refine AOps.nil ?_
          repeat (with_reducible first | refine thenNil ?_ | refine blockNil ?_)
          refine AWp.cond rfl ?_ (fun hc4 => ?_) (fun hc4 => ?_)
          · repeat' (first | exact trivial | exact Bool.not_or_self _ | refine And.intro ?_ ?_ | (simp; done) | (simp_all; done) | (simp [inR_i64] at *; omega))
          · simp at hc4 <;> omega
          · try simp only [decide_eq_true_eq, decide_eq_false_iff_not] at hc4
            refine AWp.skip ?_
            repeat (with_reducible first | refine thenNil ?_ | refine blockNil ?_)
            refine AWp.seq ?_
            refine AWp.seq ?_
            refine AWp.region ?_
            refine AOps.run hT true rfl ?_ ?_
            · repeat' (first | exact trivial | exact Bool.not_or_self _ | refine And.intro ?_ ?_ | (simp; done) | (simp_all; done) | (simp [inR_i64] at *; omega))
            refine AOps.nil ?_
            repeat (with_reducible first | refine thenNil ?_ | refine blockNil ?_)
            refine AWp.cond rfl ?_ (fun hc5 => ?_) (fun hc5 => ?_)
            · repeat' (first | exact trivial | exact Bool.not_or_self _ | refine And.intro ?_ ?_ | (simp; done) | (simp_all; done) | (simp [inR_i64] at *; omega))
            · simp at hc5
            · try simp only [decide_eq_true_eq, decide_eq_false_iff_not] at hc5
              refine AWp.skip ?_
              repeat (with_reducible first | refine thenNil ?_ | refine blockNil ?_)
              refine AWp.seq ?_
              refine AWp.region ?_
              refine AOps.run hT true rfl ?_ ?_
              · repeat' (first | exact trivial | exact Bool.not_or_self _ | refine And.intro ?_ ?_ | (simp; done) | (simp_all; done) | (simp [inR_i64] at *; omega))
              refine AOps.callF (T := T) rfl rfl rfl rfl rfl ?_ (toPairS_fn l hl2) (.inl ⟨by repeat' (first | exact trivial | refine And.intro ?_ ?_ | intro _), by repeat' (first | exact trivial | refine And.intro ?_ ?_ | intro _)⟩) rfl ?_
              · repeat' (first | exact trivial | exact Bool.not_or_self _ | refine And.intro ?_ ?_ | (simp; done) | (simp_all; done) | (simp [inR_i64] at *; omega))
              refine AOps.callF (T := T) rfl rfl rfl rfl rfl ?_ (NowProduct_fn l hl2) (.inl ⟨by repeat' (first | exact trivial | refine And.intro ?_ ?_ | intro _), by repeat' (first | exact trivial | refine And.intro ?_ ?_ | intro _)⟩) rfl ?_
              · repeat' (first | exact trivial | exact Bool.not_or_self _ | refine And.intro ?_ ?_ | (simp; done) | (simp_all; done) | (simp [inR_i64] at *; omega))
              refine AOps.run hT true rfl ?_ ?_
              · repeat' (first | exact trivial | exact Bool.not_or_self _ | refine And.intro ?_ ?_ | (simp; done) | (simp_all; done) | (simp [inR_i64] at *; omega))
              refine AOps.nil ?_
              repeat (with_reducible first | refine thenNil ?_ | refine blockNil ?_)
              refine AWp.seq ?_
              refine AWp.seq ?_
              refine AWp.region ?_
              refine AOps.run hT true rfl ?_ ?_
              · repeat' (first | exact trivial | exact Bool.not_or_self _ | refine And.intro ?_ ?_ | (simp; done) | (simp_all; done) | (simp [inR_i64] at *; omega))
              refine AOps.callF (T := T) rfl rfl rfl rfl rfl ?_ (eqPairS_fn (l.filter (uq vprod l)) hl3) (.inl ⟨by repeat' (first | exact trivial | refine And.intro ?_ ?_ | intro _), by repeat' (first | exact trivial | refine And.intro ?_ ?_ | intro _)⟩) rfl ?_
              · repeat' (first | exact trivial | exact Bool.not_or_self _ | refine And.intro ?_ ?_ | (simp; done) | (simp_all; done) | (simp [inR_i64] at *; omega))
              refine AOps.run hT true rfl ?_ ?_
              · repeat' (first | exact trivial | exact Bool.not_or_self _ | refine And.intro ?_ ?_ | (simp; done) | (simp_all; done) | (simp [inR_i64] at *; omega))
              refine AOps.nil ?_
              repeat (with_reducible first | refine thenNil ?_ | refine blockNil ?_)
              refine AWp.cond rfl ?_ (fun hc6 => ?_) (fun hc6 => ?_)
              · repeat' (first | exact trivial | exact Bool.not_or_self _ | refine And.intro ?_ ?_ | (simp; done) | (simp_all; done) | (simp [inR_i64] at *; omega))
              · simp at hc6
              · try simp only [decide_eq_true_eq, decide_eq_false_iff_not] at hc6
                refine AWp.skip ?_
                repeat (with_reducible first | refine thenNil ?_ | refine blockNil ?_)
                refine AWp.seq ?_
                refine AWp.region ?_
                refine AOps.run hT true rfl ?_ ?_
                · repeat' (first | exact trivial | exact Bool.not_or_self _ | refine And.intro ?_ ?_ | (simp; done) | (simp_all; done) | (simp [inR_i64] at *; omega))
                refine AOps.nil ?_
                repeat (with_reducible first | refine thenNil ?_ | refine blockNil ?_)
                refine AWp.seq ?_
                refine AWp.region ?_
                refine AOps.run hT true rfl ?_ ?_
                · repeat' (first | exact trivial | exact Bool.not_or_self _ | refine And.intro ?_ ?_ | (simp; done) | (simp_all; done) | (simp [inR_i64] at *; omega))
                refine AOps.callF (T := T) rfl rfl rfl rfl rfl ?_ (heldPairS_fn (l.filter (uq vprod l)).length hl3) (.inl ⟨by repeat' (first | exact trivial | refine And.intro ?_ ?_ | intro _), by repeat' (first | exact trivial | refine And.intro ?_ ?_ | intro _)⟩) rfl ?_
                · repeat' (first | exact trivial | exact Bool.not_or_self _ | refine And.intro ?_ ?_ | (simp; done) | (simp_all; done) | (simp [inR_i64] at *; omega))
                refine AOps.run hT true rfl ?_ ?_
                · repeat' (first | exact trivial | exact Bool.not_or_self _ | refine And.intro ?_ ?_ | (simp; done) | (simp_all; done) | (simp [inR_i64] at *; omega))
                refine AOps.nil ?_
                repeat (with_reducible first | refine thenNil ?_ | refine blockNil ?_)
                refine AWp.seq ?_
                refine AWp.seq ?_
                refine AWp.region ?_
                refine AOps.run hT true rfl ?_ ?_
                · repeat' (first | exact trivial | exact Bool.not_or_self _ | refine And.intro ?_ ?_ | (simp; done) | (simp_all; done) | (simp [inR_i64] at *; omega))
                refine AOps.nil ?_
                repeat (with_reducible first | refine thenNil ?_ | refine blockNil ?_)
                refine AWp.cond rfl ?_ (fun hc7 => ?_) (fun hc7 => ?_)
                · repeat' (first | exact trivial | exact Bool.not_or_self _ | refine And.intro ?_ ?_ | (simp; done) | (simp_all; done) | (simp [inR_i64] at *; omega))
                · simp at hc7 <;> omega
                · try simp only [decide_eq_true_eq, decide_eq_false_iff_not] at hc7
                  refine AWp.skip ?_
                  repeat (with_reducible first | refine thenNil ?_ | refine blockNil ?_)
                  refine AWp.seq ?_
                  refine AWp.seq ?_
                  refine AWp.region ?_
                  refine AOps.run hT true rfl ?_ ?_
                  · repeat' (first | exact trivial | exact Bool.not_or_self _ | refine And.intro ?_ ?_ | (simp; done) | (simp_all; done) | (simp [inR_i64] at *; omega))
                  refine AOps.nil ?_
                  repeat (with_reducible first | refine thenNil ?_ | refine blockNil ?_)
                  refine AWp.cond rfl ?_ (fun hc8 => ?_) (fun hc8 => ?_)
                  · repeat' (first | exact trivial | exact Bool.not_or_self _ | refine And.intro ?_ ?_ | (simp; done) | (simp_all; done) | (simp [inR_i64] at *; omega))
                  · simp at hc8
                  · try simp only [decide_eq_true_eq, decide_eq_false_iff_not] at hc8
                    refine AWp.skip ?_
                    repeat (with_reducible first | refine thenNil ?_ | refine blockNil ?_)
                    refine AWp.seq ?_
                    refine AWp.region ?_
                    refine AOps.run hT true rfl ?_ ?_
                    · repeat' (first | exact trivial | exact Bool.not_or_self _ | refine And.intro ?_ ?_ | (simp; done) | (simp_all; done) | (simp [inR_i64] at *; omega))
                    refine AOps.nil ?_
                    repeat (with_reducible first | refine thenNil ?_ | refine blockNil ?_)
                    refine AWp.ret ?_
                    repeat (with_reducible first | refine thenRet ?_ | refine blockRet ?_)
                    refine EndsIn.ret rfl ?_ ?_
                    · repeat' (first | exact trivial | exact Bool.not_or_self _ | refine And.intro ?_ ?_ | (simp; done) | (simp_all; done) | (simp [inR_i64] at *; omega))
                    refine ⟨[], ?_, rfl, rfl, rfl⟩
                    rfl

set_option maxRecDepth 20000 in
set_option maxHeartbeats 2000000 in
theorem law12 (l : List (Int × Int)) (hl : l.length ≤ maxLen) : AFn P 12 [lP l] (.i (cb true)) [] := by
  refine AFn.of_body Tok 69 Go.Proofs.Try.func12 rfl rfl rfl (by simp) rfl ?_
  rintro ⟨_, _, w0, I0, O0, X0, fx⟩ rfl rfl hT hfx
  refine AWp.seq ?_
  refine AWp.region ?_
  refine AOps.run hT true rfl ?_ ?_
  · repeat' (first | exact trivial | exact Bool.not_or_self _ | refine And.intro ?_ ?_ | (simp; done) | (simp_all; done) | (simp [inR_i64] at *; omega))
  refine AOps.nil ?_
  repeat (with_reducible first | refine thenNil ?_ | refine blockNil ?_)
  refine AWp.seq ?_
  refine AWp.region ?_
  refine AOps.run hT true rfl ?_ ?_
  · repeat' (first | exact trivial | exact Bool.not_or_self _ | refine And.intro ?_ ?_ | (simp; done) | (simp_all; done) | (simp [inR_i64] at *; omega))
  refine AOps.nil ?_
  repeat (with_reducible first | refine thenNil ?_ | refine blockNil ?_)
  refine AWp.seq ?_
  refine AWp.region ?_
  refine AOps.run hT true rfl ?_ ?_
  · repeat' (first | exact trivial | exact Bool.not_or_self _ | refine And.intro ?_ ?_ | (simp; done) | (simp_all; done) | (simp [inR_i64] at *; omega))
  refine AOps.callF (T := T) rfl rfl rfl rfl rfl ?_ (szPairS_fn l hl) (.inl ⟨by repeat' (first | exact trivial | refine And.intro ?_ ?_ | intro _), by repeat' (first | exact trivial | refine And.intro ?_ ?_ | intro _)⟩) rfl ?_
  · repeat' (first | exact trivial | exact Bool.not_or_self _ | refine And.intro ?_ ?_ | (simp; done) | (simp_all; done) | (simp [inR_i64] at *; omega))
  refine AOps.run hT true rfl ?_ ?_
  · repeat' (first | exact trivial | exact Bool.not_or_self _ | refine And.intro ?_ ?_ | (simp; done) | (simp_all; done) | (simp [inR_i64] at *; omega))
  refine AOps.nil ?_
  repeat (with_reducible first | refine thenNil ?_ | refine blockNil ?_)
  refine AWp.seq ?_
  refine AWp.seq ?_
  refine AWp.region ?_
  refine AOps.run hT true rfl ?_ ?_
  · repeat' (first | exact trivial | exact Bool.not_or_self _ | refine And.intro ?_ ?_ | (simp; done) | (simp_all; done) | (simp [inR_i64] at *; omega))
  refine AOps.nil ?_
  repeat (with_reducible first | refine thenNil ?_ | refine blockNil ?_)
  refine AWp.cond rfl ?_ (fun hc0 => ?_) (fun hc0 => ?_)
  · repeat' (first | exact trivial | exact Bool.not_or_self _ | refine And.intro ?_ ?_ | (simp; done) | (simp_all; done) | (simp [inR_i64] at *; omega))
  · try simp only [decide_eq_true_eq, decide_eq_false_iff_not] at hc0
    refine AWp.seq ?_
    refine AWp.region ?_
    refine AOps.run hT true rfl ?_ ?_
    · repeat' (first | exact trivial | exact Bool.not_or_self _ | refine And.intro ?_ ?_ | (simp; done) | (simp_all; done) | (simp [inR_i64] at *; omega))
    refine AOps.nil ?_
    repeat (with_reducible first | refine thenNil ?_ | refine blockNil ?_)
    refine AWp.ret ?_
    repeat (with_reducible first | refine thenRet ?_ | refine blockRet ?_)
    refine EndsIn.ret rfl ?_ ?_
    · repeat' (first | exact trivial | exact Bool.not_or_self _ | refine And.intro ?_ ?_ | (simp; done) | (simp_all; done) | (simp [inR_i64] at *; omega))
    refine ⟨[], ?_, rfl, rfl, rfl⟩
    rfl
  · try simp only [decide_eq_true_eq, decide_eq_false_iff_not] at hc0
    refine AWp.skip ?_
    repeat (with_reducible first | refine thenNil ?_ | refine blockNil ?_)
    refine AWp.seq ?_
    have hl2 : l.length ≤ 1048576 := by split at hc0 <;> omega
    have hl3 : (l.filter (uq vsum l)).length ≤ 1048576 := filter_len hl2
    refine AWp.region ?_
    refine AOps.run hT true rfl ?_ ?_
    · repeat' (first | exact trivial | exact Bool.not_or_self _ | refine And.intro ?_ ?_ | (simp; done) | (simp_all; done) | (simp [inR_i64] at *; omega))
    refine AOps.callF (T := T) rfl rfl rfl rfl rfl ?_ (toPairS_fn l hl2) (.inl ⟨by repeat' (first | exact trivial | refine And.intro ?_ ?_ | intro _), by repeat' (first | exact trivial | refine And.intro ?_ ?_ | intro _)⟩) rfl ?_
    · repeat' (first | exact trivial | exact Bool.not_or_self _ | refine And.intro ?_ ?_ | (simp; done) | (simp_all; done) | (simp [inR_i64] at *; omega))
    refine AOps.callF (T := T) rfl rfl rfl rfl rfl ?_ (sNowSum_fn l hl2) (.inl ⟨by repeat' (first | exact trivial | refine And.intro ?_ ?_ | intro _), by repeat' (first | exact trivial | refine And.intro ?_ ?_ | intro _)⟩) rfl ?_
    · repeat' (first | exact trivial | exact Bool.not_or_self _ | refine And.intro ?_ ?_ | (simp; done) | (simp_all; done) | (simp [inR_i64] at *; omega))
    refine AOps.run hT true rfl ?_ ?_
    · repeat' (first | exact trivial | exact Bool.not_or_self _ | refine And.intro ?_ ?_ | (simp; done) | (simp_all; done) | (simp [inR_i64] at *; omega))
    refine AOps.nil ?_
    repeat (with_reducible first | refine thenNil ?_ | refine blockNil ?_)
    refine AWp.seq ?_
    refine AWp.region ?_
    refine AOps.run hT true rfl ?_ ?_
    · repeat' (first | exact trivial | exact Bool.not_or_self _ | refine And.intro ?_ ?_ | (simp; done) | (simp_all; done) | (simp [inR_i64] at *; omega))
    refine AOps.callF (T := T) rfl rfl rfl rfl rfl ?_ (toPairS_fn l hl2) (.inl ⟨by repeat' (first | exact trivial | refine And.intro ?_ ?_ | intro _), by repeat' (first | exact trivial | refine And.intro ?_ ?_ | intro _)⟩) rfl ?_
    · repeat' (first | exact trivial | exact Bool.not_or_self _ | refine And.intro ?_ ?_ | (simp; done) | (simp_all; done) | (simp [inR_i64] at *; omega))
    refine AOps.run hT true rfl ?_ ?_
    · repeat' (first | exact trivial | exact Bool.not_or_self _ | refine And.intro ?_ ?_ | (simp; done) | (simp_all; done) | (simp [inR_i64] at *; omega))
    refine AOps.nil ?_
    repeat (with_reducible first | refine thenNil ?_ | refine blockNil ?_)
    refine AWp.seq ?_
    refine AWp.region ?_
    refine AOps.run hT true rfl ?_ ?_
    · repeat' (first | exact trivial | exact Bool.not_or_self _ | refine And.intro ?_ ?_ | (simp; done) | (simp_all; done) | (simp [inR_i64] at *; omega))
    refine AOps.callF (T := T) rfl rfl rfl rfl rfl ?_ (NowSum_fn l hl2) (.inl ⟨by repeat' (first | exact trivial | refine And.intro ?_ ?_ | intro _), by repeat' (first | exact trivial | refine And.intro ?_ ?_ | intro _)⟩) rfl ?_
    · repeat' (first | exact trivial | exact Bool.not_or_self _ | refine And.intro ?_ ?_ | (simp; done) | (simp_all; done) | (simp [inR_i64] at *; omega))
    refine AOps.run hT true rfl ?_ ?_
    · repeat' (first | exact trivial | exact Bool.not_or_self _ | refine And.intro ?_ ?_ | (simp; done) | (simp_all; done) | (simp [inR_i64] at *; omega))
    refine AOps.nil ?_
    repeat (with_reducible first | refine thenNil ?_ | refine blockNil ?_)
    refine AWp.seq ?_
    refine AWp.seq ?_
    refine AWp.region ?_
    refine AOps.run hT true rfl ?_ ?_
    · repeat' (first | exact trivial | exact Bool.not_or_self _ | refine And.intro ?_ ?_ | (simp; done) | (simp_all; done) | (simp [inR_i64] at *; omega))
    refine AOps.callF (T := T) rfl rfl rfl rfl rfl ?_ (eqPairS_fn (l.filter (uq vsum l)) hl3) (.inl ⟨by repeat' (first | exact trivial | refine And.intro ?_ ?_ | intro _), by repeat' (first | exact trivial | refine And.intro ?_ ?_ | intro _)⟩) rfl ?_
    · repeat' (first | exact trivial | exact Bool.not_or_self _ | refine And.intro ?_ ?_ | (simp; done) | (simp_all; done) | (simp [inR_i64] at *; omega))
    refine AOps.run hT true rfl ?_ ?_
    · repeat' (first | exact trivial | exact Bool.not_or_self _ | refine And.intro ?_ ?_ | (simp; done) | (simp_all; done) | (simp [inR_i64] at *; omega))
    refine AOps.nil ?_
    repeat (with_reducible first | refine thenNil ?_ | refine blockNil ?_)
    refine AWp.cond rfl ?_ (fun hc1 => ?_) (fun hc1 => ?_)
    · repeat' (first | exact trivial | exact Bool.not_or_self _ | refine And.intro ?_ ?_ | (simp; done) | (simp_all; done) | (simp [inR_i64] at *; omega))
    · simp at hc1
    · try simp only [decide_eq_true_eq, decide_eq_false_iff_not] at hc1
      refine AWp.skip ?_
      repeat (with_reducible first | refine thenNil ?_ | refine blockNil ?_)
      refine AWp.seq ?_
      refine AWp.seq ?_
      refine AWp.region ?_
      refine AOps.run hT true rfl ?_ ?_
      · repeat' (first | exact trivial | exact Bool.not_or_self _ | refine And.intro ?_ ?_ | (simp; done) | (simp_all; done) | (simp [inR_i64] at *; omega))
      refine AOps.callF (T := T) rfl rfl rfl rfl rfl ?_ (toPairS_fn l hl2) (.inl ⟨by repeat' (first | exact trivial | refine And.intro ?_ ?_ | intro _), by repeat' (first | exact trivial | refine And.intro ?_ ?_ | intro _)⟩) rfl ?_
      · repeat' (first | exact trivial | exact Bool.not_or_self _ | refine And.intro ?_ ?_ | (simp; done) | (simp_all; done) | (simp [inR_i64] at *; omega))
      refine AOps.callF (T := T) rfl rfl rfl rfl rfl ?_ (eqPairS_fn l hl2) (.inl ⟨by repeat' (first | exact trivial | refine And.intro ?_ ?_ | intro _), by repeat' (first | exact trivial | refine And.intro ?_ ?_ | intro _)⟩) rfl ?_
      · repeat' (first | exact trivial | exact Bool.not_or_self _ | refine And.intro ?_ ?_ | (simp; done) | (simp_all; done) | (simp [inR_i64] at *; omega))
      refine AOps.run hT true rfl ?_ ?_
      · repeat' (first | exact trivial | exact Bool.not_or_self _ | refine And.intro ?_ ?_ | (simp; done) | (simp_all; done) | (simp [inR_i64] at *; omega))
      refine AOps.nil ?_
      repeat (with_reducible first | refine thenNil ?_ | refine blockNil ?_)
      refine AWp.cond rfl ?_ (fun hc2 => ?_) (fun hc2 => ?_)
      · repeat' (first | exact trivial | exact Bool.not_or_self _ | refine And.intro ?_ ?_ | (simp; done) | (simp_all; done) | (simp [inR_i64] at *; omega))
      · simp at hc2
      · try simp only [decide_eq_true_eq, decide_eq_false_iff_not] at hc2
        refine AWp.skip ?_
        repeat (with_reducible first | refine thenNil ?_ | refine blockNil ?_)
        refine AWp.seq ?_
        refine AWp.region ?_
        refine AOps.run hT true rfl ?_ ?_
        · repeat' (first | exact trivial | exact Bool.not_or_self _ | refine And.intro ?_ ?_ | (simp; done) | (simp_all; done) | (simp [inR_i64] at *; omega))
        refine AOps.nil ?_
        repeat (with_reducible first | refine thenNil ?_ | refine blockNil ?_)
        refine AWp.seq ?_
        refine AWp.region ?_
        refine AOps.run hT true rfl ?_ ?_
        · repeat' (first | exact trivial | exact Bool.not_or_self _ | refine And.intro ?_ ?_ | (simp; done) | (simp_all; done) | (simp [inR_i64] at *; omega))
        refine AOps.callH (T := T) [2] rfl rfl rfl rfl rfl rfl ?_ (markPairS_fn l hl2) (.inl ⟨by repeat' (first | exact trivial | refine And.intro ?_ ?_ | intro _), by repeat' (first | exact trivial | refine And.intro ?_ ?_ | intro _)⟩) rfl rfl ?_
        · repeat' (first | exact trivial | exact Bool.not_or_self _ | refine And.intro ?_ ?_ | (simp; done) | (simp_all; done) | (simp [inR_i64] at *; omega))
        refine AOps.run hT true rfl ?_ ?_
        · repeat' (first | exact trivial | exact Bool.not_or_self _ | refine And.intro ?_ ?_ | (simp; done) | (simp_all; done) | (simp [inR_i64] at *; omega))
        refine AOps.nil ?_
        repeat (with_reducible first | refine thenNil ?_ | refine blockNil ?_)
        refine AWp.seq ?_
        refine AWp.seq ?_
        refine AWp.region ?_
        refine AOps.run hT true rfl ?_ ?_
        · repeat' (first | exact trivial | exact Bool.not_or_self _ | refine And.intro ?_ ?_ | (simp; done) | (simp_all; done) | (simp [inR_i64] at *; omega))
        refine AOps.callG (T := T) rfl rfl rfl rfl rfl (fun hg => ?_) (fun hg => eqPairS_fn (l.filter (uq vsum l)) hl3) (.inl (by repeat' (first | exact trivial | refine And.intro ?_ ?_ | intro _))) rfl ?_
        · repeat' (first | exact trivial | exact Bool.not_or_self _ | refine And.intro ?_ ?_ | (simp; done) | (simp_all; done) | (simp [inR_i64] at *; omega))
        refine AOps.run hT true rfl ?_ ?_
        · repeat' (first | exact trivial | exact Bool.not_or_self _ | refine And.intro ?_ ?_ | (simp; done) | (simp_all; done) | (simp [inR_i64] at *; omega))
        refine AOps.nil ?_
        repeat (with_reducible first | refine thenNil ?_ | refine blockNil ?_)
        refine AWp.cond rfl ?_ (fun hc3 => ?_) (fun hc3 => ?_)
        · repeat' (first | exact trivial | exact Bool.not_or_self _ | refine And.intro ?_ ?_ | (simp; done) | (simp_all; done) | (simp [inR_i64] at *; omega))
        · simp at hc3 <;> omega
        · try simp only [decide_eq_true_eq, decide_eq_false_iff_not] at hc3
          refine AWp.skip ?_
          repeat (with_reducible first | refine thenNil ?_ | refine blockNil ?_)
          refine AWp.seq ?_
          refine AWp.region ?_
          refine AOps.run hT true rfl ?_ ?_
          · repeat' (first | exact trivial | exact Bool.not_or_self _ | refine And.intro ?_ ?_ | (simp; done) | (simp_all; done) | (simp [inR_i64] at *; omega))
          refine AOps.nil ?_
          repeat (with_reducible first | refine thenNil ?_ | refine blockNil ?_)
          refine AWp.seq ?_
          refine AWp.region ?_
          refine AOps.run hT true rfl ?_ ?_
          · repeat' (first | exact trivial | exact Bool.not_or_self _ | refine And.intro ?_ ?_ | (simp; done) | (simp_all; done) | (simp [inR_i64] at *; omega))
          refine AOps.callH (T := T) [3] rfl rfl rfl rfl rfl rfl ?_ (markPairS_fn (l.filter (uq vsum l)) hl3) (.inl ⟨by repeat' (first | exact trivial | refine And.intro ?_ ?_ | intro _), by repeat' (first | exact trivial | refine And.intro ?_ ?_ | intro _)⟩) rfl rfl ?_
          · repeat' (first | exact trivial | exact Bool.not_or_self _ | refine And.intro ?_ ?_ | (simp; done) | (simp_all; done) | (simp [inR_i64] at *; omega))
          refine AOps.run hT true rfl ?_ ?_
          · repeat' (first | exact trivial | exact Bool.not_or_self _ | refine And.intro ?_ ?_ | (simp; done) | (simp_all; done) | (simp [inR_i64] at *; omega))
          refine AOps.nil ?_
          repeat (with_reducible first | refine thenNil ?_ | refine blockNil ?_)
          refine AWp.seq ?_
          refine AWp.region ?_
          refine AOps.run hT true rfl ?_ ?_
          · repeat' (first | exact trivial | exact Bool.not_or_self _ | refine And.intro ?_ ?_ | (simp; done) | (simp_all; done) | (simp [inR_i64] at *; omega))
          refine AOps.nil ?_
          repeat (with_reducible first | refine thenNil ?_ | refine blockNil ?_)
          refine AWp.seq ?_
          refine AWp.region ?_
          refine AOps.run hT true rfl ?_ ?_
          · repeat' (first | exact trivial | exact Bool.not_or_self _ | refine And.intro ?_ ?_ | (simp; done) | (simp_all; done) | (simp [inR_i64] at *; omega))
          refine AOps.callF (T := T) rfl rfl rfl rfl rfl ?_ (heldPairS_fn (l.filter (uq vsum l)).length hl3) (.inl ⟨by repeat' (first | exact trivial | refine And.intro ?_ ?_ | intro _), by repeat' (first | exact trivial | refine And.intro ?_ ?_ | intro _)⟩) rfl ?_
          · repeat' (first | exact trivial | exact Bool.not_or_self _ | refine And.intro ?_ ?_ | (simp; done) | (simp_all; done) | (simp [inR_i64] at *; omega))
          refine AOps.run hT true rfl ?_ ?_
          · repeat' (first | exact trivial | exact Bool.not_or_self _ | refine And.intro ?_ ?_ | (simp; done) | (simp_all; done) | (simp [inR_i64] at *; omega))
          refine AOps.nil ?_
          repeat (with_reducible first | refine thenNil ?_ | refine blockNil ?_)
          refine AWp.seq ?_
          refine AWp.seq ?_
          refine AWp.region ?_
          refine AOps.run hT true rfl ?_ ?_
          · repeat' (first | exact trivial | exact Bool.not_or_self _ | refine And.intro ?_ ?_ | (simp; done) | (simp_all; done) | (simp [inR_i64] at *; omega))
          refine AOps.nil ?_
          repeat (with_reducible first | refine thenNil ?_ | refine blockNil ?_)
          refine AWp.cond rfl ?_ (fun hc4 => ?_) (fun hc4 => ?_)
          · repeat' (first | exact trivial | exact Bool.not_or_self _ | refine And.intro ?_ ?_ | (simp; done) | (simp_all; done) | (simp [inR_i64] at *; omega))
          · simp at hc4 <;> omega
          · try simp only [decide_eq_true_eq, decide_eq_false_iff_not] at hc4
            refine AWp.skip ?_
            repeat (with_reducible first | refine thenNil ?_ | refine blockNil ?_)
            refine AWp.seq ?_
            refine AWp.seq ?_
            refine AWp.region ?_
            refine AOps.run hT true rfl ?_ ?_
            · repeat' (first | exact trivial | exact Bool.not_or_self _ | refine And.intro ?_ ?_ | (simp; done) | (simp_all; done) | (simp [inR_i64] at *; omega))
            refine AOps.nil ?_
            repeat (with_reducible first | refine thenNil ?_ | refine blockNil ?_)
            refine AWp.cond rfl ?_ (fun hc5 => ?_) (fun hc5 => ?_)
            · repeat' (first | exact trivial | exact Bool.not_or_self _ | refine And.intro ?_ ?_ | (simp; done) | (simp_all; done) | (simp [inR_i64] at *; omega))
            · simp at hc5
            · try simp only [decide_eq_true_eq, decide_eq_false_iff_not] at hc5
              refine AWp.skip ?_
              repeat (with_reducible first | refine thenNil ?_ | refine blockNil ?_)
              refine AWp.seq ?_
              refine AWp.region ?_
              refine AOps.run hT true rfl ?_ ?_
              · repeat' (first | exact trivial | exact Bool.not_or_self _ | refine And.intro ?_ ?_ | (simp; done) | (simp_all; done) | (simp [inR_i64] at *; omega))
              refine AOps.callF (T := T) rfl rfl rfl rfl rfl ?_ (toPairS_fn l hl2) (.inl ⟨by repeat' (first | exact trivial | refine And.intro ?_ ?_ | intro _), by repeat' (first | exact trivial | refine And.intro ?_ ?_ | intro _)⟩) rfl ?_
              · repeat' (first | exact trivial | exact Bool.not_or_self _ | refine And.intro ?_ ?_ | (simp; done) | (simp_all; done) | (simp [inR_i64] at *; omega))
              refine AOps.callF (T := T) rfl rfl rfl rfl rfl ?_ (NowSum_fn l hl2) (.inl ⟨by repeat' (first | exact trivial | refine And.intro ?_ ?_ | intro _), by repeat' (first | exact trivial | refine And.intro ?_ ?_ | intro _)⟩) rfl ?_
              · repeat' (first | exact trivial | exact Bool.not_or_self _ | refine And.intro ?_ ?_ | (simp; done) | (simp_all; done) | (simp [inR_i64] at *; omega))
              refine AOps.run hT true rfl ?_ ?_
              · repeat' (first | exact trivial | exact Bool.not_or_self _ | refine And.intro ?_ ?_ | (simp; done) | (simp_all; done) | (simp [inR_i64] at *; omega))
              refine AOps.nil ?_
              repeat (with_reducible first | refine thenNil ?_ | refine blockNil ?_)
              refine AWp.seq ?_
              refine AWp.seq ?_
              refine AWp.region ?_
              refine AOps.run hT true rfl ?_ ?_
              · repeat' (first | exact trivial | exact Bool.not_or_self _ | refine And.intro ?_ ?_ | (simp; done) | (simp_all; done) | (simp [inR_i64] at *; omega))
              refine AOps.callF (T := T) rfl rfl rfl rfl rfl ?_ (eqPairS_fn (l.filter (uq vsum l)) hl3) (.inl ⟨by repeat' (first | exact trivial | refine And.intro ?_ ?_ | intro _), by repeat' (first | exact trivial | refine And.intro ?_ ?_ | intro _)⟩) rfl ?_
              · repeat' (first | exact trivial | exact Bool.not_or_self _ | refine And.intro ?_ ?_ | (simp; done) | (simp_all; done) | (simp [inR_i64] at *; omega))
              refine AOps.run hT true rfl ?_ ?_
              · repeat' (first | exact trivial | exact Bool.not_or_self _ | refine And.intro ?_ ?_ | (simp; done) | (simp_all; done) | (simp [inR_i64] at *; omega))
              refine AOps.nil ?_
              repeat (with_reducible first | refine thenNil ?_ | refine blockNil ?_)
              refine AWp.cond rfl ?_ (fun hc6 => ?_) (fun hc6 => ?_)
              · repeat' (first | exact trivial | exact Bool.not_or_self _ | refine And.intro ?_ ?_ | (simp; done) | (simp_all; done) | (simp [inR_i64] at *; omega))
              · simp at hc6
              · try simp only [decide_eq_true_eq, decide_eq_false_iff_not] at hc6
                refine AWp.skip ?_
                repeat (with_reducible first | refine thenNil ?_ | refine blockNil ?_)
                refine AWp.seq ?_
                refine AWp.region ?_
                refine AOps.run hT true rfl ?_ ?_
                · repeat' (first | exact trivial | exact Bool.not_or_self _ | refine And.intro ?_ ?_ | (simp; done) | (simp_all; done) | (simp [inR_i64] at *; omega))
                refine AOps.nil ?_
                repeat (with_reducible first | refine thenNil ?_ | refine blockNil ?_)
                refine AWp.seq ?_
                refine AWp.region ?_
                refine AOps.run hT true rfl ?_ ?_
                · repeat' (first | exact trivial | exact Bool.not_or_self _ | refine And.intro ?_ ?_ | (simp; done) | (simp_all; done) | (simp [inR_i64] at *; omega))
                refine AOps.callF (T := T) rfl rfl rfl rfl rfl ?_ (heldPairS_fn (l.filter (uq vsum l)).length hl3) (.inl ⟨by repeat' (first | exact trivial | refine And.intro ?_ ?_ | intro _), by repeat' (first | exact trivial | refine And.intro ?_ ?_ | intro _)⟩) rfl ?_
                · repeat' (first | exact trivial | exact Bool.not_or_self _ | refine And.intro ?_ ?_ | (simp; done) | (simp_all; done) | (simp [inR_i64] at *; omega))
                refine AOps.run hT true rfl ?_ ?_
                · repeat' (first | exact trivial | exact Bool.not_or_self _ | refine And.intro ?_ ?_ | (simp; done) | (simp_all; done) | (simp [inR_i64] at *; omega))
                refine AOps.nil ?_
                repeat (with_reducible first | refine thenNil ?_ | refine blockNil ?_)
                refine AWp.seq ?_
                refine AWp.seq ?_
                refine AWp.region ?_
                refine AOps.run hT true rfl ?_ ?_
                · repeat' (first | exact trivial | exact Bool.not_or_self _ | refine And.intro ?_ ?_ | (simp; done) | (simp_all; done) | (simp [inR_i64] at *; omega))
                refine AOps.nil ?_
                repeat (with_reducible first | refine thenNil ?_ | refine blockNil ?_)
                refine AWp.cond rfl ?_ (fun hc7 => ?_) (fun hc7 => ?_)
                · repeat' (first | exact trivial | exact Bool.not_or_self _ | refine And.intro ?_ ?_ | (simp; done) | (simp_all; done) | (simp [inR_i64] at *; omega))
                · simp at hc7 <;> omega
                · try simp only [decide_eq_true_eq, decide_eq_false_iff_not] at hc7
                  refine AWp.skip ?_
                  repeat (with_reducible first | refine thenNil ?_ | refine blockNil ?_)
                  refine AWp.seq ?_
                  refine AWp.seq ?_
                  refine AWp.region ?_
                  refine AOps.run hT true rfl ?_ ?_
                  · repeat' (first | exact trivial | exact Bool.not_or_self _ | refine And.intro ?_ ?_ | (simp; done) | (simp_all; done) | (simp [inR_i64] at *; omega))
                  refine AOps.nil ?_
                  repeat (with_reducible first | refine thenNil ?_ | refine blockNil ?_)
                  refine AWp.cond rfl ?_ (fun hc8 => ?_) (fun hc8 => ?_)
                  · repeat' (first | exact trivial | exact Bool.not_or_self _ | refine And.intro ?_ ?_ | (simp; done) | (simp_all; done) | (simp [inR_i64] at *; omega))
                  · simp at hc8
                  · try simp only [decide_eq_true_eq, decide_eq_false_iff_not] at hc8
                    refine AWp.skip ?_
                    repeat (with_reducible first | refine thenNil ?_ | refine blockNil ?_)
                    refine AWp.seq ?_
                    refine AWp.region ?_
                    refine AOps.run hT true rfl ?_ ?_
                    · repeat' (first | exact trivial | exact Bool.not_or_self _ | refine And.intro ?_ ?_ | (simp; done) | (simp_all; done) | (simp [inR_i64] at *; omega))
                    refine AOps.nil ?_
                    repeat (with_reducible first | refine thenNil ?_ | refine blockNil ?_)
                    refine AWp.ret ?_
                    repeat (with_reducible first | refine thenRet ?_ | refine blockRet ?_)
                    refine EndsIn.ret rfl ?_ ?_
                    · repeat' (first | exact trivial | exact Bool.not_or_self _ | refine And.intro ?_ ?_ | (simp; done) | (simp_all; done) | (simp [inR_i64] at *; omega))
                    refine ⟨[], ?_, rfl, rfl, rfl⟩
                    rfl

end Go.AMA
