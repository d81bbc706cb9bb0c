/- An abstract machine over the kit's walk: own lemmas, one part. -/
import Derived.Test.YtciempegimofhaaAm2
import Derived.ProofKit
import Derived.ReadAgain
import Derived.KernelRfl
import Derived.JoinedOf
import Derived.Orders
set_option linter.unusedSectionVars false
set_option linter.unusedSimpArgs false
set_option linter.unusedVariables false
set_option linter.unnecessarySimpa false
namespace Go.AM
open Go.RowKit

variable {C : Ctx} {env env' : Env} {H H' : List AObj} {I : Nat → Prop} {X X' : Hd} {tmps : Array Value} {w w' : World} {P : Program} {T : TT}

abbrev Post := Exit → Env → List AObj → Prop

def lift (C : Ctx) (Q : Post) : Exit → Act → World → Prop := fun e a w => ∃ env H, Q e env H ∧ St C env H a w

def AWp (C : Ctx) (c : Code) (Q : Post) (env : Env) (H : List AObj) : Prop := ∀ a w, St C env H a w → c.wp C.P (lift C Q) a w
def AOps (C : Ctx) (all rest : List Oper) (Q : Post) (env : Env) (H : List AObj) : Prop := ∀ a w, St C env H a w → wpList C.P all.toArray (lift C Q) rest a w

theorem aops_obs {nw : Bool} {N : Nat} {all : List Oper} : ∀ {rest : List Oper} {env : Env} {H : List AObj} {obs : List Bool} {env' : Env} {H' : List AObj} {obs' : List Bool} {rest' : List Oper},
    aops nw T N all rest env H obs = some (env', H', obs', rest') → allTrue obs' → allTrue obs
  | [], _, _, _, _, _, _, _, h, ho => by simp only [aops, Option.some.injEq, Prod.mk.injEq] at h; obtain ⟨_, _, rfl, _⟩ := h; exact ho
  | o :: r, env, H, obs, env', H', obs', rest', h, ho => by
    simp only [aops] at h
    split at h
    · cases h; exact ho
    · split at h
      · have := aops_obs h ho
        rw [allTrue_append] at this
        exact this.2
      · cases h

theorem aops_sound (hT : TTok C.P T) {nw : Bool} {all : List Oper} {Q : Exit → Act → World → Prop} : ∀ {rest : List Oper} {env : Env} {H : List AObj} {obs : List Bool} {env' : Env} {H' : List AObj} {obs' : List Bool} {rest' : List Oper},
    aops nw T C.N all rest env H obs = some (env', H', obs', rest') → allTrue obs' → (∀ a w, St C env' H' a w → wpList C.P all.toArray Q rest' a w) → ∀ a w, St C env H a w → wpList C.P all.toArray Q rest a w
  | [], _, _, _, _, _, _, _, h, _, hk => by simp only [aops, Option.some.injEq, Prod.mk.injEq] at h; obtain ⟨rfl, rfl, _, rfl⟩ := h; exact hk
  | o :: r, env, H, obs, env', H', obs', rest', h, ho, hk => by
    simp only [aops] at h
    split at h
    · cases h; exact hk
    · split at h
      · rename_i env1 H1 obs1 hs
        intro a w hst
        obtain ⟨hd, I, X, hrel⟩ := hst
        have h1 := aops_obs h ho
        rw [allTrue_append] at h1
        exact astep_sound hT hd hrel hs h1.1 (K := wpList C.P all.toArray Q r) (fun a' w' hst' => aops_sound hT h ho hk a' w' hst')
      · cases h

theorem AOps.run (hT : TTok C.P T) (nw : Bool) {all rest rest' : List Oper} {Q : Post} {obs : List Bool} (h : aops nw T C.N all rest env H [] = some (env', H', obs, rest')) (ho : allTrue obs) (hk : AOps C all rest' Q env' H') : AOps C all rest Q env H :=
  aops_sound hT h ho hk

theorem AOps.nil {all : List Oper} {Q : Post} (h : Q .normal env H) : AOps C all [] Q env H := fun _ _ hst => ⟨env, H, h, hst⟩

theorem AWp.region {id : Nat} {l : List Oper} {Q : Post} (h : AOps C l l Q env H) : AWp C (.region id l.toArray false) Q env H := fun a w hst => wp_region_lit (h a w hst)

theorem AWp.skip {Q : Post} (h : Q .normal env H) : AWp C .skip Q env H := fun _ _ hst => wp_skip ⟨env, H, h, hst⟩
theorem AWp.exit {id : Nat} {Q : Post} (h : Q (.exit id) env H) : AWp C (.exit id) Q env H := fun _ _ hst => wp_exit ⟨env, H, h, hst⟩
theorem AWp.ret {Q : Post} (h : Q .ret env H) : AWp C .ret Q env H := fun _ _ hst => wp_ret ⟨env, H, h, hst⟩

def Post.then (K : Env → List AObj → Prop) (Q : Post) : Post
  | .normal, env, H => K env H
  | e, env, H => Q e env H

theorem AWp.seq {x y : Code} {Q : Post} (h : AWp C x (Post.then (fun env H => AWp C y Q env H) Q) env H) : AWp C (.seq x y) Q env H := by
  intro a w hst
  refine wp_seq (wp_mono (h a w hst) ?_)
  rintro e a w ⟨env, H, hq, hst⟩
  cases e with
  | normal => exact hq a w hst
  | exit id => exact ⟨env, H, hq, hst⟩
  | goto l => exact ⟨env, H, hq, hst⟩
  | ret => exact ⟨env, H, hq, hst⟩
  | panic c => exact ⟨env, H, hq, hst⟩
  | outgrown => exact ⟨env, H, hq, hst⟩

theorem AWp.mono {c : Code} {Q Q' : Post} (h : AWp C c Q env H) (hq : ∀ e env H, Q e env H → Q' e env H) : AWp C c Q' env H :=
  fun a w hst => wp_mono (h a w hst) (fun e a w ⟨env, H, hq', hst⟩ => ⟨env, H, hq _ _ _ hq', hst⟩)

theorem AWp.cond {x : Operand} {c d : Code} {Q : Post} {t : Bool} (hx : opd env x = some (.i (.c (.bool t)))) (ho : allTrue (opdOb env none x)) (ht : t = true → AWp C c Q env H) (hf : t = false → AWp C d Q env H) : AWp C (.cond x c d) Q env H := by
  intro a w hst
  obtain ⟨hd, I, X, hrel⟩ := id hst
  obtain ⟨g, h1, _, h3, _⟩ := opd_sound hrel hx
  have hev : a.eval x = .bool t := (irel_c.1 (h1 (h3 _ rfl ho))).1
  exact wp_cond_split hev (fun h => ht h a w hst) (fun h => hf h a w hst)

def Post.inBlock (id : Nat) (Q : Post) : Post
  | .exit id', env, H => match Nat.beq id' id with | true => Q .normal env H | false => Q (.exit id') env H
  | e, env, H => Q e env H

theorem AWp.block {id : Nat} {c : Code} {Q : Post} (h : AWp C c (Post.inBlock id Q) env H) : AWp C (.block id c) Q env H := by
  intro a w hst
  refine wp_block (wp_mono (h a w hst) ?_)
  rintro e a w ⟨env, H, hq, hst⟩
  cases e with
  | exit id' =>
    simp only [Exit.inBlock]
    simp only [Post.inBlock] at hq
    by_cases hid : id' = id
    · subst hid
      simp only [if_true]
      simp only [Nat.beq_refl] at hq
      exact ⟨env, H, hq, hst⟩
    · have : Nat.beq id' id = false := by cases hb : Nat.beq id' id with | false => rfl | true => exact (hid (Nat.eq_of_beq_eq_true hb)).elim
      rw [this] at hq
      simp only [if_neg hid]
      exact ⟨env, H, hq, hst⟩
  | normal => exact ⟨env, H, hq, hst⟩
  | goto l => exact ⟨env, H, hq, hst⟩
  | ret => exact ⟨env, H, hq, hst⟩
  | panic c => exact ⟨env, H, hq, hst⟩
  | outgrown => exact ⟨env, H, hq, hst⟩

theorem least_exists {p : Nat → Prop} : (∃ n, p n) → ∃ n, p n ∧ ∀ m, p m → n ≤ m := by
  rintro ⟨n, hn⟩
  induction n using Nat.strongRecOn with
  | _ n ih =>
    by_cases h : ∃ m, m < n ∧ p m
    · obtain ⟨m, h1, h2⟩ := h; exact ih m h1 h2
    · exact ⟨n, hn, fun m hm => by
        rcases Nat.lt_or_ge m n with h1 | h1
        · exact (h ⟨m, h1, hm⟩).elim
        · exact h1⟩

open Classical in
noncomputable def leastOf (p : Nat → Prop) : Nat := if h : ∃ n, p n then Classical.choose (least_exists h) else 0

theorem leastOf_spec {p : Nat → Prop} (h : ∃ n, p n) : p (leastOf p) ∧ ∀ m, p m → leastOf p ≤ m := by
  unfold leastOf
  rw [dif_pos h]
  exact Classical.choose_spec (least_exists h)

theorem AWp.loop {c : Code} {Q : Post} (Inv : Nat → Env → List AObj → Prop) {n : Nat} (h0 : Inv n env H)
    (round : ∀ n env H, Inv n env H → AWp C c (Post.then (fun env' H' => ∃ m, m < n ∧ Inv m env' H') Q) env H) : AWp C (.loop c) Q env H := by
  intro a w hst
  let J : Act → World → Nat → Prop := fun a w n => ∃ env H, Inv n env H ∧ St C env H a w
  refine wp_loop (fun a w => ∃ n, J a w n) (fun a w => leastOf (J a w)) ⟨n, env, H, h0, hst⟩ ?_
  intro a w hI
  obtain ⟨⟨env1, H1, hinv, hst1⟩, _⟩ := leastOf_spec hI
  refine wp_mono (round _ env1 H1 hinv a w hst1) ?_
  rintro e a' w' ⟨env2, H2, hq, hst2⟩
  cases e with
  | normal =>
    obtain ⟨m, hm, hinv2⟩ := hq
    have hI2 : ∃ n, J a' w' n := ⟨m, env2, H2, hinv2, hst2⟩
    exact ⟨hI2, Nat.lt_of_le_of_lt ((leastOf_spec hI2).2 m ⟨env2, H2, hinv2, hst2⟩) hm⟩
  | exit id => exact ⟨env2, H2, hq, hst2⟩
  | goto l => exact ⟨env2, H2, hq, hst2⟩
  | ret => exact ⟨env2, H2, hq, hst2⟩
  | panic c => exact ⟨env2, H2, hq, hst2⟩
  | outgrown => exact ⟨env2, H2, hq, hst2⟩

/-! ### weakening -/
def objEq : AObj → AObj → Prop
  | .arr fx t s n f, .arr fx' t' s' n' f' => fx = fx' ∧ t = t' ∧ s = s' ∧ n = n' ∧ ∀ j, j < n → f j = f' j
  | .arr2 fx t tr sr n g h, .arr2 fx' t' tr' sr' n' g' h' => fx = fx' ∧ t = t' ∧ tr = tr' ∧ sr = sr' ∧ n = n' ∧ h = h' ∧ ∀ j, j < n → (g j).1 = (g' j).1 ∧ ∀ i, i < (g j).1 → (g j).2 i = (g' j).2 i
  | .map k et card dom val, .map k' et' card' dom' val' => k = k' ∧ et = et' ∧ card = card' ∧ ∀ y, dom y = dom' y ∧ val y = val' y
  | o, o' => o = o'

theorem objEq_live {o o' : AObj} (h : objEq o o') (row : Option Nat) : liveObj o' row ↔ liveObj o row := by
  cases o <;> cases o' <;> simp only [objEq] at h <;> first | exact h.elim | (cases h; done) | (cases h; rfl) | (obtain ⟨rfl, rfl, rfl, rfl, rfl, rfl, _⟩ := h; exact Iff.rfl) | exact Iff.rfl

theorem objEq_fixed {o o' : AObj} (h : objEq o o') : fixedObj o' = fixedObj o := by
  cases o <;> cases o' <;> simp only [objEq] at h <;> first | exact h.elim | (cases h; done) | exact h.1.symm | rfl | (cases h; rfl)

theorem rowrel_eq {t : TypeId} {s : Nat} {v : Value} {n : Nat} {f f' : Nat → IV} (h : rowrel I w t s v n f) (hf : ∀ j, j < n → f j = f' j) : rowrel I w t s v n f' := by
  obtain ⟨xs, h1, h2⟩ := h
  refine ⟨xs, h1, fun j hj => ?_⟩
  rw [← hf j hj]; exact h2 j hj

theorem objEq_orel {o o' : AObj} {len id : Nat} (h : objEq o o') (ho : orel P I w X len id o) : orel P I w X len id o' := by
  cases o <;> cases o' <;> simp only [objEq] at h <;> first | exact h.elim | (cases h; done) | (cases h; exact ho) | skip
  · obtain ⟨rfl, rfl, rfl, rfl, hf⟩ := h
    exact rowrel_eq ho hf
  · obtain ⟨rfl, rfl, rfl, rfl, rfl, rfl, hg⟩ := h
    obtain ⟨h1, h2⟩ := ho
    refine ⟨h1, fun j hj hh => ?_⟩
    obtain ⟨g1, g2⟩ := hg j hj
    rw [← g1]
    exact rowrel_eq (h2 j hj hh) g2
  · obtain ⟨rfl, rfl, rfl, hd⟩ := h
    obtain ⟨r, es, clock, h1, h2, h3, h4, h5⟩ := ho
    refine ⟨r, es, clock, h1, h2, h3, h4, fun y => ?_⟩
    rw [← (hd y).1, ← (hd y).2]
    exact h5 y

inductive HEq' : List AObj → List AObj → Prop
  | nil : HEq' [] []
  | cons {o o' : AObj} {l l' : List AObj} (h : objEq o o') (hl : HEq' l l') : HEq' (o :: l) (o' :: l')
  | dead {o : AObj} {l l' : List AObj} (h : fixedObj o = false) (hl : HEq' l l') : HEq' (o :: l) (.dead :: l')

theorem HEq'.length {l l' : List AObj} (h : HEq' l l') : l'.length = l.length := by induction h <;> simp_all

theorem HEq'.get {l l' : List AObj} (h : HEq' l l') (i : Nat) : (l[i]? = none ∧ l'[i]? = none) ∨ ∃ o o', l[i]? = some o ∧ l'[i]? = some o' ∧ (objEq o o' ∨ (o' = .dead ∧ fixedObj o = false)) := by
  induction h generalizing i with
  | nil => simp
  | cons h _ ih =>
    cases i with
    | zero => exact .inr ⟨_, _, rfl, rfl, .inl h⟩
    | succ i => simpa using ih i
  | dead h _ ih =>
    cases i with
    | zero => exact .inr ⟨_, _, rfl, rfl, .inr ⟨rfl, h⟩⟩
    | succ i => simpa using ih i

theorem objEq_refl (o : AObj) : objEq o o := by cases o <;> simp [objEq]

theorem HEq'.refl : ∀ l : List AObj, HEq' l l
  | [] => .nil
  | o :: l => .cons (objEq_refl o) (HEq'.refl l)

/-- every entry of the second environment is one of the first -/
def Sub (env env' : Env) : Prop := ∀ k v, get env' k = some v → get env k = some v

theorem Sub.nil : Sub env [] := fun k v h => by simp [get] at h
theorem Sub.cons {k : Nat} {v : AV} (h : get env k = some v) (hs : Sub env env') : Sub env ((k, v) :: env') := by
  intro k' v' hk
  rw [get_cons] at hk
  split at hk
  · rename_i e; subst e; cases hk; exact h
  · exact hs k' v' hk

theorem St.weaken {a : Act} (h : St C env H a w) (hs : Sub env env') (hH : HEq' H H') : St C env' H' a w := by
  obtain ⟨hd, I, X, hr⟩ := h
  have hlen := hH.length
  have hl : ∀ id row, live H' id row → live H id row := by
    intro id row hl
    unfold live at hl ⊢
    rcases hH.get id with ⟨h1, h2⟩ | ⟨o, o', h1, h2, h3⟩
    · rw [h2] at hl; exact hl.elim
    · rw [h2] at hl; rw [h1]
      rcases h3 with h3 | ⟨rfl, _⟩
      · exact (objEq_live h3 row).1 hl
      · exact hl.elim
  refine ⟨hd, I, X, hr.size, fun k v hk => ?_, ⟨fun id o' ho' => ?_, fun id row id' row' b h1 h2 h3 h4 => hr.hok.inj id row id' row' b (hl _ _ h1) (hl _ _ h2) h3 h4, fun id row b h1 h2 => hr.hok.off id row b (hl _ _ h1) h2⟩, hr.sub, hr.sup, hr.ilt,
    fun id row b h1 h2 => hr.own id row b (hl _ _ h1) h2, hr.keep, fun k hk => ?_⟩
  · rw [hlen]; exact hr.env k v (hs k v hk)
  · rw [hlen]
    rcases hH.get id with ⟨h1, h2⟩ | ⟨o, o2, h1, h2, h3⟩
    · rw [h2] at ho'; cases ho'
    · rw [h2] at ho'; cases ho'
      rcases h3 with h3 | ⟨rfl, _⟩
      · exact objEq_orel h3 (hr.hok.obj id o h1)
      · trivial
  · obtain ⟨⟨o, h1, h2⟩, h3⟩ := hr.hfx k hk
    rcases hH.get k with ⟨g1, _⟩ | ⟨o1, o2, g1, g2, g3⟩
    · rw [g1] at h1; cases h1
    · rw [g1] at h1; cases h1
      rcases g3 with g3 | ⟨_, g3⟩
      · exact ⟨⟨o2, g2, by rw [objEq_fixed g3]; exact h2⟩, h3⟩
      · rw [h2] at g3; cases g3

theorem AWp.weaken {c : Code} {Q : Post} (hs : Sub env env') (hH : HEq' H H') (h : AWp C c Q env' H') : AWp C c Q env H := fun a w hst => h a w (hst.weaken hs hH)
theorem AOps.weaken {all rest : List Oper} {Q : Post} (hs : Sub env env') (hH : HEq' H H') (h : AOps C all rest Q env' H') : AOps C all rest Q env H := fun a w hst => h a w (hst.weaken hs hH)

end Go.AM

namespace Go.AM
open Go.RowKit

variable {C : Ctx} {env env' : Env} {H H' : List AObj} {I : Nat → Prop} {X X' : Hd} {tmps : Array Value} {w w' : World} {P : Program} {T : TT}

/-- the blocks of the owned objects -/
def ownSet (H : List AObj) (X : Hd) : Nat → Prop := fun b => ∃ id row, live H id row ∧ X.blk id row = some b

/-- **A contract**: whatever the memory, called with these arguments and owned objects the function returns, and what it returns and leaves of the owned objects is as `Q` says; all other memory is as it was. -/
structure Ret (P : Program) (H : List AObj) (Q : AV → List AObj → Prop) (I : Nat → Prop) (X : Hd) (w : World) (v : Value) (w' : World) (r : AV) (H' : List AObj) (I' : Nat → Prop) (X' : Hd) : Prop where
  q : Q r H'
  rel : arel I' w' X' r v
  refs : refs (below H'.length) r = true
  hok : HOk P I' w' X' H'
  sub : ∀ b, I b → I' b
  sup : ∀ b, I' b → I b ∨ w.heap.size ≤ b
  ilt : ∀ b, I' b → b < w'.heap.size
  own : ∀ id row b, live H' id row → X'.blk id row = some b → ownSet H X b ∨ w.heap.size ≤ b
  keep : Keep (ownSet H X) w w'
  fx : ∀ k o, H[k]? = some o → fixedObj o = true → (∃ o', H'[k]? = some o' ∧ fixedObj o' = true) ∧ X'.val k none = X.val k none

def ACalls (P : Program) (f : FuncId) (args : List AV) (H : List AObj) (Q : AV → List AObj → Prop) : Prop :=
  (∃ fn, P.funcs[f]? = some fn ∧ fn.name ≠ "runtime.NumGoroutine" ∧ fn.body.isNone = false) ∧
  ∀ (w : World) (vs : List Value) (I : Nat → Prop) (X : Hd), HOk P I w X H → (∀ b, I b → b < w.heap.size) → arelAll I w X args vs → refsAll (below H.length) args = true →
    Calls P f vs.toArray w fun e w' => ∃ v r H' I' X', e = .returned v ∧ Ret P H Q I X w v w' r H' I' X'

theorem ACalls.mono {f : FuncId} {args : List AV} {Q Q' : AV → List AObj → Prop} (h : ACalls P f args H Q) (hq : ∀ r H', Q r H' → Q' r H') : ACalls P f args H Q' :=
  ⟨h.1, fun w vs I X h1 h2 h3 h4 => (h.2 w vs I X h1 h2 h3 h4).mono fun _ _ ⟨v, r, H', I', X', he, hr⟩ => ⟨v, r, H', I', X', he, { hr with q := hq _ _ hr.q }⟩⟩

/-! ### the body of a function -/
def argEnv : Nat → List AV → Env
  | _, [] => []
  | k, v :: r => (k, v) :: argEnv (k + 1) r

theorem get_argEnv : ∀ (l : List AV) (k i : Nat) (v : AV), get (argEnv k l) i = some v → k ≤ i ∧ l[i - k]? = some v
  | [], k, i, v, h => by simp [argEnv, get] at h
  | u :: r, k, i, v, h => by
    rw [argEnv, get_cons] at h
    split at h
    · rename_i e; subst e; cases h; exact ⟨Nat.le_refl _, by simp⟩
    · rename_i hne
      obtain ⟨h1, h2⟩ := get_argEnv r (k + 1) i v h
      refine ⟨by omega, ?_⟩
      rw [show i - k = (i - (k + 1)) + 1 by omega]
      simpa using h2

def ares1 (T : TT) (env : Env) (H : List AObj) : ResultVar → Option (AV × List Bool)
  | .tmp t => match get env t with
    | some .any => none
    | some v => some (v, [])
    | none => none
  | .cell a t => match get env a with
    | some (.opt _ _) => none
    | some .any => none
    | some v => qLoad T H t v
    | none => none

def aresL (T : TT) (env : Env) (H : List AObj) : List ResultVar → Option (List AV × List Bool)
  | [] => some ([], [])
  | r :: l => match ares1 T env H r, aresL T env H l with
    | some (v, o1), some (vs, o2) => some (v :: vs, o1 ++ o2)
    | _, _ => none

def ares (T : TT) (env : Env) (H : List AObj) (l : List ResultVar) : Option (AV × List Bool) :=
  match aresL T env H l with
  | some ([v], obs) => some (v, obs)
  | some (vs, obs) => some (.tup vs, obs)
  | none => none

def resRun (tmps : Array Value) : ResultVar → Sem Value
  | .tmp t => pure (tmps.getD t undef)
  | .cell a t => do loadVar t (← asAddr (tmps.getD a undef))

theorem ares1_sound (hT : TTok C.P T) (h : Rel C env H I X tmps w) {r : ResultVar} {v : AV} {obs : List Bool} (hr : ares1 T env H r = some (v, obs)) (ho : allTrue obs) :
    ∃ z, (resRun tmps r).run C.P w = .ok z w ∧ arel I w X v z ∧ refs (below H.length) v = true := by
  cases r with
  | tmp t =>
    simp only [ares1] at hr
    split at hr
    · cases hr
    · rename_i u hne hu
      cases hr
      obtain ⟨_, h2, h3⟩ := h.env t _ hu
      exact ⟨_, rfl, h3, h2⟩
    · cases hr
  | cell a t =>
    simp only [ares1] at hr
    split at hr
    · cases hr
    · cases hr
    · rename_i u hne1 hne2 hu
      obtain ⟨_, h2, h3⟩ := h.env a _ hu
      obtain ⟨⟨z, h4, h5⟩, h6⟩ := qLoad_sound hT h.hok h.ilt h3 h2 hr ho
      have h7 := h5 w (Same.refl w)
      refine ⟨z, ?_, h4, h6⟩
      simp only [Instr.loadAt, Sem.run_bind] at h7
      simp only [resRun, Sem.run_bind]
      generalize tmps.getD a undef = x at h7 ⊢
      unfold Instr.sureAddr at h7
      split at h7
      · simpa [asAddr] using h7
      · simp [Result.andThen] at h7
    · cases hr

theorem aresL_sound (hT : TTok C.P T) (h : Rel C env H I X tmps w) : ∀ {l : List ResultVar} {vs : List AV} {obs : List Bool}, aresL T env H l = some (vs, obs) → allTrue obs →
    ∃ zs : List Value, (l.mapM (resRun tmps)).run C.P w = .ok zs w ∧ arelAll I w X vs zs ∧ refsAll (below H.length) vs = true
  | [], vs, obs, hr, _ => by simp only [aresL, Option.some.injEq, Prod.mk.injEq] at hr; obtain ⟨rfl, _⟩ := hr; exact ⟨[], rfl, rfl, rfl⟩
  | r :: l, vs, obs, hr, ho => by
    simp only [aresL] at hr
    split at hr
    · rename_i v o1 vs' o2 h1 h2
      cases hr
      rw [allTrue_append] at ho
      obtain ⟨z, e1, e2, e3⟩ := ares1_sound hT h h1 ho.1
      obtain ⟨zs, f1, f2, f3⟩ := aresL_sound hT h h2 ho.2
      refine ⟨z :: zs, ?_, ⟨z, zs, rfl, e2, f2⟩, refsAll_cons.2 ⟨e3, f3⟩⟩
      rw [List.mapM_cons]
      simp only [Sem.run_bind, e1, Result.andThen_ok, f1, Sem.run_pure]
    · cases hr

theorem ares_sound (hT : TTok C.P T) (h : Rel C env H I X tmps w) {fn : Func} {l : List ResultVar} (hl : fn.results = l.toArray) {v : AV} {obs : List Bool} (hr : ares T env H l = some (v, obs)) (ho : allTrue obs) :
    ∃ z, (results fn tmps).run C.P w = .ok z w ∧ arel I w X v z ∧ refs (below H.length) v = true := by
  unfold ares at hr
  have key : ∀ {vs obs'}, aresL T env H l = some (vs, obs') → allTrue obs' → ∃ zs : List Value, (results fn tmps).run C.P w = .ok (if h : zs.toArray.size = 1 then zs.toArray[0] else .tuple zs.toArray) w ∧ arelAll I w X vs zs ∧ refsAll (below H.length) vs = true := by
    intro vs obs' h1 h2
    obtain ⟨zs, f1, f2, f3⟩ := aresL_sound hT h h1 h2
    refine ⟨zs, ?_, f2, f3⟩
    unfold results
    rw [hl, Array.mapM_eq_mapM_toList]
    simp only [Sem.run_bind, Sem.run_map]
    have hrr : (fun (x : ResultVar) => match x with
      | .tmp t => (pure (tmps.getD t undef) : Sem Value)
      | .cell a t => do loadVar t (← asAddr (tmps.getD a undef))) = resRun tmps := by funext x; cases x <;> rfl
    have f1' := f1
    rw [← hrr] at f1'
    erw [f1']
    rfl
  split at hr
  · rename_i u obs' h1
    cases hr
    obtain ⟨zs, f1, f2, f3⟩ := key h1 ho
    obtain ⟨z, r, rfl, f4, f5⟩ := f2
    simp only [arelAll] at f5
    subst f5
    exact ⟨z, by simpa using f1, f4, (refsAll_cons.1 f3).1⟩
  · rename_i vs obs' hne h1
    cases hr
    obtain ⟨zs, f1, f2, f3⟩ := key h1 ho
    have hlen := arelAll_length f2
    have : ¬ zs.toArray.size = 1 := by
      intro hs
      have h2 : vs.length = 1 := by rw [← hlen]; simpa using hs
      match vs, h2 with
      | [u], _ => exact hne u rfl
    rw [dif_neg this] at f1
    exact ⟨_, f1, ⟨zs, rfl, f2⟩, f3⟩
  · cases hr

/-- the end of a function's body -/
def EndsIn (T : TT) (l : List ResultVar) (Q : AV → List AObj → Prop) : Post := fun e env H =>
  match e with
  | .normal | .ret => ∃ r obs, ares T env H l = some (r, obs) ∧ allTrue obs ∧ Q r H
  | _ => False

theorem EndsIn.ret {l : List ResultVar} {Q : AV → List AObj → Prop} {r : AV} {obs : List Bool} (h : ares T env H l = some (r, obs)) (ho : allTrue obs) (hq : Q r H) : EndsIn T l Q .ret env H := ⟨r, obs, h, ho, hq⟩
theorem EndsIn.normal {l : List ResultVar} {Q : AV → List AObj → Prop} {r : AV} {obs : List Bool} (h : ares T env H l = some (r, obs)) (ho : allTrue obs) (hq : Q r H) : EndsIn T l Q .normal env H := ⟨r, obs, h, ho, hq⟩

theorem acalls_of_body (hT : TTok P T) {f : FuncId} {fn : Func} {c : Code} {l : List ResultVar} {args : List AV} {Q : AV → List AObj → Prop} (N : Nat) (hf : P.funcs[f]? = some fn) (hb : fn.body = some c) (hl : fn.results = l.toArray)
    (hN : fn.ntmps = N) (ha : args.length ≤ N) (hname : (fn.name == "runtime.NumGoroutine") = false)
    (h : ∀ C : Ctx, C.P = P → C.N = N → TTok C.P T → (∀ k, C.fx k = true → k < H.length) → AWp C c (EndsIn T l Q) (argEnv 0 args) H) : ACalls P f args H Q := by
  refine ⟨⟨fn, hf, by simpa using hname, by rw [hb]; rfl⟩, fun w vs I X hok hlt hargs hrefs => ?_⟩
  subst hN
  let C : Ctx := { P := P, N := fn.ntmps, w0 := w, I0 := I, O0 := ownSet H X, X0 := X, fx := fun k => match H[k]? with | some o => fixedObj o | none => false }
  have hlen := arelAll_length hargs
  have hst : St C (argEnv 0 args) H { tmps := vs.toArray ++ Array.replicate (fn.ntmps - vs.toArray.size) undef, defers := [] } w := by
    refine ⟨rfl, I, X, ?_, fun k v hk => ?_, hok, fun _ h => h, fun _ h => .inl h, hlt, fun id row b h1 h2 => .inl ⟨id, row, h1, h2⟩, Keep.refl _ _, fun k hk => ?_⟩
    · show (vs.toArray ++ Array.replicate (fn.ntmps - vs.toArray.size) undef).size = fn.ntmps
      simp; omega
    · obtain ⟨_, h1⟩ := get_argEnv args 0 k v hk
      simp only [Nat.sub_zero] at h1
      obtain ⟨z, h2, h3⟩ := arelAll_get hargs h1
      have hk' : k < args.length := (List.getElem?_eq_some_iff.1 h1).1
      refine ⟨by show k < fn.ntmps; omega, refsAll_get hrefs h1, ?_⟩
      have : (vs.toArray ++ Array.replicate (fn.ntmps - vs.toArray.size) undef).getD k undef = z := by
        have hkv : k < vs.length := by omega
        simp [Array.getD_eq_getD_getElem?, Array.getElem?_append, hkv]
        rw [List.getElem?_eq_getElem hkv] at h2; cases h2; rfl
      rw [this]; exact h3
    · simp only [C] at hk
      split at hk
      · rename_i o ho; exact ⟨⟨o, ho, hk⟩, rfl⟩
      · cases hk
  have hfxl : ∀ k, C.fx k = true → k < H.length := by
    intro k hk
    simp only [C] at hk
    split at hk
    · rename_i o ho; exact (List.getElem?_eq_some_iff.1 ho).1
    · cases hk
  refine calls_of_wp hf hb (wp_mono (h C rfl rfl hT hfxl _ w hst) ?_)
  rintro e a w' ⟨env, H', hq, hd, I', X', hr⟩
  have fin : (∃ r obs, ares T env H' l = some (r, obs) ∧ allTrue obs ∧ Q r H') → a.defers = [] ∧ ∃ v, (results fn a.tmps).run P w' = .ok v w' ∧ ∃ v' r H' I' X', Ending.returned v = .returned v' ∧ Ret P H Q I X w v' w' r H' I' X' := by
    rintro ⟨r, obs, h1, h2, h3⟩
    obtain ⟨z, h4, h5, h6⟩ := ares_sound (C := C) hT hr hl h1 h2
    refine ⟨hd, z, h4, z, r, H', I', X', rfl, h3, h5, h6, hr.hok, hr.sub, hr.sup, hr.ilt, fun id row b g1 g2 => hr.own id row b g1 g2, hr.keep, fun k o hk hfo => ?_⟩
    exact hr.hfx k (by simp only [C]; rw [hk]; exact hfo)
  cases e with
  | normal => exact fin hq
  | ret => exact fin hq
  | exit id => exact hq.elim
  | goto l => exact hq.elim
  | panic c => exact hq.elim
  | outgrown => exact hq.elim

end Go.AM

namespace Go.AM
open Go.RowKit

variable {C : Ctx} {env env' : Env} {H H' : List AObj} {I : Nat → Prop} {X X' : Hd} {tmps : Array Value} {w w' : World} {P : Program} {T : TT}

/-! ### renaming of the objects that a call hands back -/
mutual
def shA (n : Nat) : AV → AV
  | .i v => .i v
  | .agg l => .agg (shL n l)
  | .tup l => .tup (shL n l)
  | .osl id row => .osl (n + id) row
  | .oel id row s j off => .oel (n + id) row s j off
  | .optr id off => .optr (n + id) off
  | .clo f l => .clo f (shL n l)
  | .omap id => .omap (n + id)
  | .opt g v => .opt g (shA n v)
  | .any => .any
def shL (n : Nat) : List AV → List AV
  | [] => []
  | v :: r => shA n v :: shL n r
end

def shO (n : Nat) : AObj → AObj
  | .box t cells => .box t (shL n cells)
  | o => o

def shH (n : Nat) : List AObj → List AObj
  | [] => []
  | o :: r => shO n o :: shH n r

theorem shH_length (n : Nat) : ∀ l, (shH n l).length = l.length
  | [] => rfl
  | _ :: r => by simp [shH, shH_length n r]

theorem shH_get (n i : Nat) : ∀ l : List AObj, (shH n l)[i]? = (l[i]?).map (shO n)
  | [] => by simp [shH]
  | o :: r => by
    cases i with
    | zero => simp [shH]
    | succ i => simpa [shH] using shH_get n i r

section
variable {n : Nat} (hX : ∀ id row, X'.val (n + id) row = X.val id row)
include hX
mutual
theorem arel_sh : ∀ (v : AV) (x : Value), arel I w X v x → arel I w X' (shA n v) x
  | .i _, _, h => h
  | .agg l, _, h => by obtain ⟨cs, h1, h2, h3⟩ := h; exact ⟨cs, h1, arelAll_sh l cs h2, h3⟩
  | .tup l, _, h => by obtain ⟨cs, h1, h2⟩ := h; exact ⟨cs, h1, arelAll_sh l cs h2⟩
  | .osl id row, x, h => by simp only [shA, arel, hX]; exact h
  | .oel id row s j off, x, h => by simp only [shA, arel, hX]; exact h
  | .optr id off, x, h => by simp only [shA, arel, hX]; exact h
  | .clo _ l, _, h => by obtain ⟨cs, h1, h2⟩ := h; exact ⟨cs, h1, arelAll_sh l cs h2⟩
  | .omap id, x, h => by simp only [shA, arel, hX]; exact h
  | .opt _ v, x, h => ⟨fun g => arel_sh v x (h.1 g), h.2⟩
  | .any, _, _ => trivial
theorem arelAll_sh : ∀ (l : List AV) (cs : List Value), arelAll I w X l cs → arelAll I w X' (shL n l) cs
  | [], _, h => h
  | e :: l, _, h => by
    obtain ⟨v, r, h1, h2, h3⟩ := h
    exact ⟨v, r, h1, arel_sh e v h2, arelAll_sh l r h3⟩
end
end

section
variable {n m : Nat}
mutual
theorem refs_sh : ∀ (v : AV), refs (below m) v = true → refs (below (n + m)) (shA n v) = true
  | .i _, _ => rfl
  | .agg l, h => refsAll_sh l h
  | .tup l, h => refsAll_sh l h
  | .osl id row, h => by simp only [shA, refs, below, Nat.blt_eq] at *; omega
  | .oel id row s j off, h => by simp only [shA, refs, below, Nat.blt_eq] at *; omega
  | .optr id off, h => by simp only [shA, refs, below, Nat.blt_eq] at *; omega
  | .clo _ l, h => refsAll_sh l h
  | .omap id, h => by simp only [shA, refs, below, Nat.blt_eq] at *; omega
  | .opt _ v, h => refs_sh v h
  | .any, _ => rfl
theorem refsAll_sh : ∀ (l : List AV), refsAll (below m) l = true → refsAll (below (n + m)) (shL n l) = true
  | [], _ => rfl
  | e :: l, h => by rw [refsAll_cons] at h; exact refsAll_cons.2 ⟨refs_sh e h.1, refsAll_sh l h.2⟩
end
end

theorem orel_sh {n m id : Nat} {o : AObj} (hX : ∀ id row, X'.val (n + id) row = X.val id row) (h : orel P I w X m id o) : orel P I w X' (n + m) (n + id) (shO n o) := by
  cases o with
  | dead => trivial
  | box t cells =>
    obtain ⟨b, cs, h1, h2, h3, h4, h5⟩ := h
    exact ⟨b, cs, by rw [hX]; exact h1, h2, arelAll_sh hX _ _ h3, h4, refsAll_sh _ h5⟩
  | arr fx t s n' f => show rowrel _ _ _ _ _ _ _; rw [hX]; exact h
  | arr2 fx t tr sr n' g hole =>
    obtain ⟨⟨xs, h1, h2, h3⟩, h4⟩ := h
    exact ⟨⟨xs, by rw [hX]; exact h1, h2, fun j hj hh => by rw [hX]; exact h3 j hj hh⟩, fun j hj hh => by rw [hX]; exact h4 j hj hh⟩
  | map k et card dom val =>
    obtain ⟨r, es, clock, h1, h2⟩ := h
    exact ⟨r, es, clock, by rw [hX]; exact h1, h2⟩

theorem liveObj_sh (n : Nat) (o : AObj) (row : Option Nat) : liveObj (shO n o) row ↔ liveObj o row := by cases o <;> rfl

/-- new objects, all their blocks new -/
theorem Rel.extend (h : Rel C env H I X tmps w) (hs : Same w w') {J : Nat → Prop} {H2 : List AObj} {X2 : Hd} (hok : HOk C.P J w' X2 H2) (hJ : ∀ b, J b → I b ∨ w.heap.size ≤ b) (hJl : ∀ b, J b → b < w'.heap.size)
    (hown : ∀ id row b, live H2 id row → X2.blk id row = some b → w.heap.size ≤ b) :
    ∃ X', (∀ id row, id < H.length → X'.val id row = X.val id row) ∧ (∀ id row, X'.val (H.length + id) row = X2.val id row) ∧ Rel C env (H ++ shH H.length H2) (fun b => I b ∨ J b) X' tmps w' := by
  have hr := h.world hs
  let X' : Hd := ⟨fun id row => if id < H.length then X.val id row else X2.val (id - H.length) row⟩
  have hX1 : ∀ id row, id < H.length → X'.val id row = X.val id row := fun id row hid => by simp [X', hid]
  have hX2 : ∀ id row, X'.val (H.length + id) row = X2.val id row := fun id row => by
    show (if H.length + id < H.length then X.val (H.length + id) row else X2.val (H.length + id - H.length) row) = _
    rw [if_neg (by omega), Nat.add_sub_cancel_left]
  refine ⟨X', hX1, hX2, ?_⟩
  have hlen : (H ++ shH H.length H2).length = H.length + H2.length := by simp [shH_length]
  have hl : ∀ id row, live (H ++ shH H.length H2) id row → (live H id row ∧ id < H.length) ∨ ∃ k, id = H.length + k ∧ live H2 k row := by
    intro id row hl
    by_cases hid : id < H.length
    · left
      unfold live at hl ⊢
      rw [List.getElem?_append_left hid] at hl
      exact ⟨hl, hid⟩
    · right
      refine ⟨id - H.length, by omega, ?_⟩
      unfold live at hl ⊢
      rw [List.getElem?_append_right (by omega), shH_get] at hl
      cases ho : H2[id - H.length]? with
      | none => rw [ho] at hl; exact hl.elim
      | some o => rw [ho] at hl; exact (liveObj_sh _ o row).1 hl
  have hw : ∀ b, I b → w'.heap[b]? = w'.heap[b]? := fun _ _ => rfl
  refine ⟨hr.size, fun k u hk => ?_, ⟨?_, ?_, ?_⟩, fun b hb => .inl (hr.sub b hb), ?_, ?_, ?_, hr.keep, fun k hk => ?_⟩
  · obtain ⟨a, b, c⟩ := hr.env k u hk
    exact ⟨a, by rw [hlen]; exact refs_mono (below_mono (by omega)) _ b, arel_mono (fun _ h => .inl h) (fun _ _ => rfl) _ _ (arel_congr (p := below H.length) (fun id row hb => hX1 id row (by simpa [below, Nat.blt_eq] using hb)) _ _ b c)⟩
  · intro id o' ho'
    rw [hlen]
    by_cases hid : id < H.length
    · rw [List.getElem?_append_left hid] at ho'
      have h1 := hr.hok.obj id o' ho'
      have h2 := orel_hd hX1 hid h1
      exact orel_frame (fun _ h => .inl h) (fun _ _ => rfl) (by omega) H ho' (fun _ _ _ _ => rfl) h2
    · rw [List.getElem?_append_right (by omega), shH_get] at ho'
      cases ho : H2[id - H.length]? with
      | none => rw [ho] at ho'; cases ho'
      | some o =>
        rw [ho] at ho'
        simp only [Option.map_some, Option.some.injEq] at ho'
        subst ho'
        have h1 := orel_sh (n := H.length) hX2 (hok.obj _ o ho)
        rw [show H.length + (id - H.length) = id by omega] at h1
        exact orel_frame (fun _ h => .inr h) (fun _ _ => rfl) (Nat.le_refl _) (H ++ shH H.length H2) (by rw [List.getElem?_append_right (by omega), shH_get, ho]; rfl) (fun _ _ _ _ => rfl) h1
  · intro id row id' row' b h1 h2 h3 h4
    rcases hl id row h1 with ⟨h5, h6⟩ | ⟨k, rfl, h5⟩ <;> rcases hl id' row' h2 with ⟨h7, h8⟩ | ⟨k', rfl, h7⟩
    · rw [blk_congr (hX1 id row h6)] at h3; rw [blk_congr (hX1 id' row' h8)] at h4
      exact hr.hok.inj id row id' row' b h5 h7 h3 h4
    · rw [blk_congr (hX1 id row h6)] at h3
      have e : X'.blk (H.length + k') row' = X2.blk k' row' := by unfold Hd.blk; rw [hX2]
      rw [e] at h4
      have := blk_lt_of_orel h.hok h5 h3
      have := hown k' row' b h7 h4
      omega
    · rw [blk_congr (hX1 id' row' h8)] at h4
      have e : X'.blk (H.length + k) row = X2.blk k row := by unfold Hd.blk; rw [hX2]
      rw [e] at h3
      have := blk_lt_of_orel h.hok h7 h4
      have := hown k row b h5 h3
      omega
    · have e : ∀ k row, X'.blk (H.length + k) row = X2.blk k row := fun k row => by unfold Hd.blk; rw [hX2]
      rw [e] at h3 h4
      obtain ⟨rfl, rfl⟩ := hok.inj k row k' row' b h5 h7 h3 h4
      exact ⟨rfl, rfl⟩
  · intro id row b h1 h3 hIJ
    rcases hl id row h1 with ⟨h5, h6⟩ | ⟨k, rfl, h5⟩
    · rw [blk_congr (hX1 id row h6)] at h3
      rcases hIJ with hI | hJ'
      · exact h.hok.off id row b h5 h3 hI
      · have hlt := blk_lt_of_orel h.hok h5 h3
        rcases hJ b hJ' with hI | hge
        · exact h.hok.off id row b h5 h3 hI
        · omega
    · have e : X'.blk (H.length + k) row = X2.blk k row := by unfold Hd.blk; rw [hX2]
      rw [e] at h3
      rcases hIJ with hI | hJ'
      · have := h.ilt b hI
        have := hown k row b h5 h3
        omega
      · exact hok.off k row b h5 h3 hJ'
  · rintro b (hb | hb)
    · exact hr.sup b hb
    · rcases hJ b hb with h1 | h1
      · exact hr.sup b h1
      · right; have := h.keep.size; omega
  · rintro b (hb | hb)
    · exact hr.ilt b hb
    · exact hJl b hb
  · intro id row b h1 h3
    rcases hl id row h1 with ⟨h5, h6⟩ | ⟨k, rfl, h5⟩
    · rw [blk_congr (hX1 id row h6)] at h3
      exact hr.own id row b h5 h3
    · have e : X'.blk (H.length + k) row = X2.blk k row := by unfold Hd.blk; rw [hX2]
      rw [e] at h3
      right
      have := hown k row b h5 h3
      have := h.keep.size
      omega
  · obtain ⟨⟨o', h1, h2⟩, h3⟩ := hr.hfx k hk
    have hlt := (List.getElem?_eq_some_iff.1 h1).1
    exact ⟨⟨o', by rw [List.getElem?_append_left hlt]; exact h1, h2⟩, by rw [hX1 k none hlt]; exact h3⟩

/-! ### what a call may look at: everything, as immutable data -/
def lowL (f : AV → Option (IV × List Bool)) : List AV → Option (List IV × List Bool)
  | [] => some ([], [])
  | v :: r => match f v, lowL f r with
    | some (e, o1), some (l, o2) => some (e :: l, o1 ++ o2)
    | _, _ => none

def structTy (T : TT) (t : TypeId) : Bool := match T.at t with
  | some ⟨.struct _ _, _, _, _⟩ => true
  | _ => false

def low (T : TT) (H : List AObj) : Nat → AV → Option (IV × List Bool)
  | 0, _ => none
  | k + 1, v => match v with
    | .i e => some (e, [])
    | .agg l => match lowL (low T H k) l with
      | some (m, obs) => match m.all notAgg with | true => some (.agg m, obs) | false => none
      | none => none
    | .clo f l => match lowL (low T H k) l with
      | some (m, obs) => match m.all notAgg with | true => some (.clo f m, obs) | false => none
      | none => none
    | .osl id none => match H[id]? with
      | some (.arr _ _ s n f) => some (.sl s false n f, [])
      | some (.arr2 _ _ _ sr n g none) => some (.sl 1 false n (fun j => .sl sr false (g j).1 (g j).2), [])
      | _ => none
    | .osl id (some r) => match H[id]? with
      | some (.arr2 _ _ _ sr n g h) => some (.sl sr false (g r).1 (g r).2, [decide (r < n ∧ h ≠ some r)])
      | _ => none
    | .optr id 0 => match H[id]? with
      | some (.box t cells) => match lowL (low T H k) cells with
        | some (m, obs) => match m.all notAgg with
          | true => match structTy T t with
            | true => some (.ptr (.agg m), obs)
            | false => match m with
              | [e] => some (.ptr e, obs)
              | _ => none
          | false => none
        | none => none
      | _ => none
    | _ => none

theorem crelAll_of_irel {Ic : Nat → Prop} : ∀ {m : List IV} {cs : List Value}, m.all notAgg = true → (∃ (hl : cs.length = m.length), ∀ (j : Nat) e v, m[j]? = some e → cs[j]? = some v → irel Ic w e v) → crelAll Ic w m cs
  | [], cs, _, ⟨hl, _⟩ => List.eq_nil_of_length_eq_zero (by simpa using hl)
  | e :: m, cs, hn, ⟨hl, h⟩ => by
    cases cs with
    | nil => simp at hl
    | cons v cs =>
      simp only [List.all_cons, Bool.and_eq_true] at hn
      refine ⟨v, cs, rfl, crel_of_irel hn.1 (h 0 e v rfl rfl), crelAll_of_irel hn.2 ⟨by simpa using hl, fun j e' v' h1 h2 => h (j + 1) e' v' (by simpa using h1) (by simpa using h2)⟩⟩

theorem lowL_sound {Ic : Nat → Prop} {f : AV → Option (IV × List Bool)} (hf : ∀ v x e obs, arel I w X v x → f v = some (e, obs) → allTrue obs → irel Ic w e x) : ∀ {l : List AV} {m : List IV} {obs : List Bool} {cs : List Value},
    arelAll I w X l cs → lowL f l = some (m, obs) → allTrue obs → ∃ (hl : cs.length = m.length), ∀ (j : Nat) e v, m[j]? = some e → cs[j]? = some v → irel Ic w e v
  | [], m, obs, cs, hc, h, _ => by
    simp only [lowL, Option.some.injEq, Prod.mk.injEq] at h
    obtain ⟨rfl, _⟩ := h
    simp only [arelAll] at hc
    subst hc
    exact ⟨rfl, fun j e v h => by simp at h⟩
  | a :: l, m, obs, cs, hc, h, ho => by
    simp only [lowL] at h
    split at h
    · rename_i e o1 r o2 h1 h2
      cases h
      rw [allTrue_append] at ho
      obtain ⟨v, cs, rfl, h3, h4⟩ := hc
      obtain ⟨h5, h6⟩ := lowL_sound hf h4 h2 ho.2
      refine ⟨by simp [h5], fun j e' v' hj hv => ?_⟩
      cases j with
      | zero => simp at hj hv; subst hj hv; exact hf _ _ _ _ h3 h1 ho.1
      | succ j => exact h6 j e' v' (by simpa using hj) (by simpa using hv)
    · cases h

theorem rowrel_low {t : TypeId} {s : Nat} {v : Value} {n : Nat} {f : Nat → IV} {Ic : Nat → Prop} (hI : ∀ b, I b → Ic b) (hv : ∀ b, v.ownBlock = some b → Ic b) (h : rowrel I w t s v n f) : crel Ic w (.sl s false n f) [v] := by
  rcases rowrel_val h with ⟨rfl, rfl⟩ | ⟨g, cap, rfl, hc⟩
  · exact ⟨_, _, rfl, Nat.le_refl _, fun h => (by cases h), .inl rfl⟩
  · refine ⟨_, _, rfl, hc, fun h => (by cases h), ?_⟩
    by_cases hn : n = 0
    · exact .inl hn
    · refine .inr ⟨g, 0, rfl, hv g rfl, fun j hj => ?_⟩
      obtain ⟨es, h1, h2, h3, _⟩ := rowrel_cells h hj ⟨_, _, rfl⟩
      exact ⟨es, h1, crel_mono hI (fun _ _ => rfl) _ _ h2, by simpa using h3⟩

theorem low_sound (hok : HOk P I w X H) : ∀ (k : Nat) (v : AV) (x : Value) (e : IV) (obs : List Bool), arel I w X v x → low T H k v = some (e, obs) → allTrue obs → irel (fun b => I b ∨ ownSet H X b) w e x
  | 0, _, _, _, _, _, h, _ => by simp [low] at h
  | k + 1, v, x, e, obs, hx, h, ho => by
    have ih := low_sound hok k
    have hI : ∀ b, I b → (fun b => I b ∨ ownSet H X b) b := fun _ h => .inl h
    have hbl : ∀ {id row}, (∃ a n c, X.val id row = .slice a n c) → ∀ b, (X.val id row).ownBlock = some b → X.blk id row = some b := fun hs b hb => blk_of_ownBlock hb
    unfold low at h
    split at h
    · cases h; exact irel_mono hI (fun _ _ => rfl) _ _ hx
    · rename_i l
      split at h
      · rename_i m obs' hm
        split at h
        · rename_i hn
          cases h
          obtain ⟨cs, rfl, hc, _⟩ := hx
          exact ⟨cs, rfl, crelAll_of_irel hn (lowL_sound ih hc hm ho)⟩
        · cases h
      · cases h
    · rename_i f l
      split at h
      · rename_i m obs' hm
        split at h
        · rename_i hn
          cases h
          obtain ⟨cs, rfl, hc⟩ := hx
          exact ⟨cs, rfl, crelAll_of_irel hn (lowL_sound ih hc hm ho)⟩
        · cases h
      · cases h
    · rename_i id
      obtain ⟨rfl, hs⟩ := hx
      split at h
      · rename_i fx t s n f hid
        cases h
        exact rowrel_low hI (fun b hb => .inr ⟨id, none, by unfold live; rw [hid]; rfl, blk_of_ownBlock hb⟩) (show rowrel I w t s (X.val id none) n f from hok.obj _ _ hid)
      · rename_i fx t tr sr n g hid
        cases h
        obtain ⟨⟨xs, h1, h2, h3⟩, h4⟩ := hok.obj _ _ hid
        have hlv : ∀ row, liveObj (.arr2 fx t tr sr n g none) row → live H id row := fun row hr => by unfold live; rw [hid]; exact hr
        rcases ownsRow_val h1 with ⟨hv, hn⟩ | ⟨b, cap, hv, hc⟩
        · rw [hv, hn]; exact ⟨_, _, rfl, Nat.le_refl _, fun h => (by cases h), .inl rfl⟩
        · rw [hv]
          refine ⟨_, _, rfl, hc, fun h => (by cases h), ?_⟩
          by_cases hn : n = 0
          · exact .inl hn
          · refine .inr ⟨b, 0, rfl, .inr ⟨id, none, hlv none (.inl rfl), by unfold Hd.blk; rw [hv]⟩, fun j hj => ?_⟩
            refine ⟨[X.val id (some j)], rfl, rowrel_low hI (fun b hb => .inr ⟨id, some j, hlv _ (.inr ⟨j, rfl, hj, by simp⟩), blk_of_ownBlock hb⟩) (h4 j hj (by simp)), ?_⟩
            intro k' v hk
            have hk0 : k' = 0 := by
              rcases k' with _ | k'
              · rfl
              · simp at hk
            subst hk0
            simp at hk; subst hk
            rw [hv] at h1
            have := h1.cells (g := b) rfl j _ (h3 j hj (by simp))
            rw [Addr.add_at] at this
            simpa using this
      · cases h
    · rename_i id r
      obtain ⟨rfl, hs⟩ := hx
      split at h
      · rename_i fx t tr sr n g hole hid
        cases h
        simp only [allTrue, decide_eq_true_eq, and_true] at ho
        obtain ⟨_, h4⟩ := hok.obj _ _ hid
        exact rowrel_low hI (fun b hb => .inr ⟨id, some r, by unfold live; rw [hid]; exact .inr ⟨r, rfl, ho.1, ho.2⟩, blk_of_ownBlock hb⟩) (h4 r ho.1 ho.2)
      · cases h
    · rename_i id
      obtain ⟨b, hb, rfl⟩ := hx
      split at h
      · rename_i t cells hid
        obtain ⟨b', cs, h1, h2, h3, h4, h5⟩ := hok.obj _ _ hid
        rw [hb] at h1; cases h1
        have hIb : (fun b => I b ∨ ownSet H X b) b := .inr ⟨id, none, by unfold live; rw [hid]; rfl, by unfold Hd.blk; rw [hb]⟩
        have hcells : cellsAt w b 0 cs := by simpa using box_cellsAt h2 0
        split at h
        · rename_i m obs' hm
          split at h
          · rename_i hn
            have hcr : ∀ (_ : allTrue obs'), crelAll (fun b => I b ∨ ownSet H X b) w m cs := fun ho => crelAll_of_irel hn (lowL_sound ih h3 hm ho)
            split at h
            · cases h
              exact ⟨b, 0, cs, rfl, hIb, hcr ho, hcells⟩
            · split at h
              · rename_i e'
                cases h
                obtain ⟨v, r, rfl, q1, q2⟩ := hcr ho
                simp only [crelAll] at q2
                subst q2
                exact ⟨b, 0, [v], rfl, hIb, q1, hcells⟩
              · cases h
          · cases h
        · cases h
      · cases h
    · cases h

end Go.AM

namespace Go.AM
open Go.RowKit

variable {C : Ctx} {env env' : Env} {H H' : List AObj} {I : Nat → Prop} {X X' : Hd} {tmps : Array Value} {w w' : World} {P : Program} {T : TT}

/-! ### values without immutable references -/
mutual
def plI : IV → Prop
  | .c _ => True
  | .agg l => plIL l
  | .sl .. => False
  | .ptr _ => False
  | .clo _ l => plIL l
def plIL : List IV → Prop
  | [] => True
  | e :: r => plI e ∧ plIL r
end
mutual
def plA : AV → Prop
  | .i e => plI e
  | .agg l => plAL l
  | .tup l => plAL l
  | .clo _ l => plAL l
  | .opt _ v => plA v
  | .osl .. | .oel .. | .optr .. | .omap _ | .any => True
def plAL : List AV → Prop
  | [] => True
  | v :: r => plA v ∧ plAL r
end
def plO : AObj → Prop
  | .dead => True
  | .box _ cells => plAL cells
  | .arr _ _ _ n f => ∀ j, j < n → plI (f j)
  | .arr2 _ _ _ _ n g _ => ∀ j, j < n → ∀ i, i < (g j).1 → plI ((g j).2 i)
  | .map _ _ _ _ val => ∀ y, plI (val y)
def plH : List AObj → Prop
  | [] => True
  | o :: r => plO o ∧ plH r

section
variable {J J' : Nat → Prop}
mutual
theorem crel_pl : ∀ (e : IV) (cs : List Value), plI e → crel J w e cs → crel J' w e cs
  | .c _, _, _, h => h
  | .agg l, cs, hp, h => crelAll_pl l cs hp h
  | .sl .., _, hp, _ => hp.elim
  | .ptr _, _, hp, _ => hp.elim
  | .clo _ l, _, hp, h => by obtain ⟨vs, h1, h2⟩ := h; exact ⟨vs, h1, crelAll_pl l vs hp h2⟩
theorem crelAll_pl : ∀ (l : List IV) (cs : List Value), plIL l → crelAll J w l cs → crelAll J' w l cs
  | [], _, _, h => h
  | e :: l, _, hp, h => by obtain ⟨v, r, h1, h2, h3⟩ := h; exact ⟨v, r, h1, crel_pl e [v] hp.1 h2, crelAll_pl l r hp.2 h3⟩
end
theorem irel_pl (e : IV) (x : Value) (hp : plI e) (h : irel J w e x) : irel J' w e x := by
  cases e with
  | agg l => obtain ⟨cs, h1, h2⟩ := h; exact ⟨cs, h1, crelAll_pl l cs hp h2⟩
  | c v => exact crel_pl (J := J) _ _ hp h
  | sl s ex n f => exact hp.elim
  | ptr e => exact hp.elim
  | clo f l => exact crel_pl (J := J) _ _ hp h
mutual
theorem arel_pl : ∀ (v : AV) (x : Value), plA v → arel J w X v x → arel J' w X v x
  | .i e, x, hp, h => irel_pl e x hp h
  | .agg l, _, hp, h => by obtain ⟨cs, h1, h2, h3⟩ := h; exact ⟨cs, h1, arelAll_pl l cs hp h2, h3⟩
  | .tup l, _, hp, h => by obtain ⟨cs, h1, h2⟩ := h; exact ⟨cs, h1, arelAll_pl l cs hp h2⟩
  | .osl _ _, _, _, h => h
  | .oel _ _ _ _ _, _, _, h => h
  | .optr _ _, _, _, h => h
  | .clo _ l, _, hp, h => by obtain ⟨cs, h1, h2⟩ := h; exact ⟨cs, h1, arelAll_pl l cs hp h2⟩
  | .omap _, _, _, h => h
  | .opt _ v, x, hp, h => ⟨fun g => arel_pl v x hp (h.1 g), h.2⟩
  | .any, _, _, _ => trivial
theorem arelAll_pl : ∀ (l : List AV) (cs : List Value), plAL l → arelAll J w X l cs → arelAll J' w X l cs
  | [], _, _, h => h
  | e :: l, _, hp, h => by obtain ⟨v, r, h1, h2, h3⟩ := h; exact ⟨v, r, h1, arel_pl e v hp.1 h2, arelAll_pl l r hp.2 h3⟩
end
theorem rowrel_pl {t : TypeId} {s : Nat} {v : Value} {n : Nat} {f : Nat → IV} (hp : ∀ j, j < n → plI (f j)) (h : rowrel J w t s v n f) : rowrel J' w t s v n f := by
  obtain ⟨xs, h1, h2⟩ := h
  refine ⟨xs, h1, fun j hj => ?_⟩
  obtain ⟨es, e1, e2, e3⟩ := h2 j hj
  exact ⟨es, e1, crel_pl _ _ (hp j hj) e2, e3⟩
theorem orel_pl {len id : Nat} {o : AObj} (hp : plO o) (h : orel P J w X len id o) : orel P J' w X len id o := by
  cases o with
  | dead => trivial
  | box t cells =>
    obtain ⟨b, cs, h1, h2, h3, h4⟩ := h
    exact ⟨b, cs, h1, h2, arelAll_pl _ _ hp h3, h4⟩
  | arr fx t s n f => exact rowrel_pl hp h
  | arr2 fx t tr sr n g hole =>
    obtain ⟨h1, h2⟩ := h
    exact ⟨h1, fun j hj hh => rowrel_pl (hp j hj) (h2 j hj hh)⟩
  | map k et card dom val =>
    obtain ⟨r, es, clock, h1, h2, h3, h4, h5⟩ := h
    refine ⟨r, es, clock, h1, h2, h3, h4, fun y => ⟨fun hd => ?_, fun hd => ?_⟩⟩
    · obtain ⟨e, e1, e2⟩ := (h5 y).1 hd; exact ⟨e, e1, irel_pl _ _ (hp y) e2⟩
    · obtain ⟨e1, z, e2, e3⟩ := (h5 y).2 hd; exact ⟨e1, z, e2, irel_pl _ _ (hp y) e3⟩
end

theorem plH_get : ∀ {l : List AObj} {i : Nat} {o : AObj}, plH l → l[i]? = some o → plO o
  | [], i, o, _, h => by simp at h
  | a :: l, 0, o, hp, h => by simp at h; subst h; exact hp.1
  | a :: l, i + 1, o, hp, h => plH_get hp.2 (by simpa using h)

/-! ### calls -/
theorem run_callFn {a : Act} {o : Oper} {fo : Operand} {args : Array Operand} {ts : Array TypeId} {f : FuncId} {caps : List Value} (hop : o.op = .call ⟨.value fo, args, ts⟩)
    (hf : a.eval fo = .func (.func f) #[] caps.toArray) (hfn : ∃ fn, P.funcs[f]? = some fn ∧ fn.name ≠ "runtime.NumGoroutine" ∧ fn.body.isNone = false) (w : World) :
    (execOp a.eval o).run P w = .ok (.enter f (args.toList.map a.eval ++ caps).toArray) w := by
  obtain ⟨fn, h1, h2, h3⟩ := hfn
  have h3' : fn.body ≠ none := by intro e; rw [e] at h3; cases h3
  have e1 : (resolve a.eval ⟨.value fo, args, ts⟩ o.type).run P w = .ok { target := .fn (.func f) caps.toArray, args := #[] ++ args.map a.eval } w := by
    simp [resolve, hf, Deferred.ofValue]
  have e2 : (callFunc f ((#[] ++ args.map a.eval) ++ caps.toArray)).run P w = .ok (.enter f ((#[] ++ args.map a.eval) ++ caps.toArray)) w := by
    simp [callFunc, h1, h2, h3']
  have e3 : ((#[] ++ args.map a.eval) ++ caps.toArray) = (args.toList.map a.eval ++ caps).toArray := by cases args; simp
  simp only [execOp, hop, Sem.run_bind, e1, Result.andThen_ok, invoke, e2]
  rw [e3]

/-- the arguments of a call, as immutable data -/
def lowArgs (T : TT) (H : List AObj) (env : Env) : List Operand → Option (List IV × List Bool)
  | [] => some ([], [])
  | x :: r => match opd env x with
    | some v => match low T H 6 v, lowArgs T H env r with
      | some (e, o1), some (l, o2) => some (e :: l, opdOb env none x ++ (o1 ++ o2))
      | _, _ => none
    | none => none

theorem lowArgs_sound {a : Act} (h : Rel C env H I X a.tmps w) : ∀ {l : List Operand} {m : List IV} {obs : List Bool}, lowArgs T H env l = some (m, obs) → allTrue obs →
    arelAll (fun b => I b ∨ ownSet H X b) w X' (m.map .i) (l.map a.eval) ∧ refsAll (below 0) (m.map .i) = true
  | [], m, obs, hl, _ => by simp only [lowArgs, Option.some.injEq, Prod.mk.injEq] at hl; obtain ⟨rfl, _⟩ := hl; exact ⟨rfl, rfl⟩
  | x :: l, m, obs, hl, ho => by
    simp only [lowArgs] at hl
    split at hl
    · rename_i v hv
      split at hl
      · rename_i e o1 r o2 h1 h2
        cases hl
        rw [allTrue_append, allTrue_append] at ho
        obtain ⟨g, g1, _, g3, _⟩ := opd_sound h hv
        obtain ⟨q1, q2⟩ := lowArgs_sound h h2 ho.2.2
        exact ⟨⟨_, _, rfl, low_sound h.hok 6 v _ e o1 (g1 (g3 _ rfl ho.1)) h1 ho.2.1, q1⟩, refsAll_cons.2 ⟨rfl, q2⟩⟩
      · cases hl
    · cases hl

/-- the function that is called, with what it has captured -/
def calleeOf (T : TT) (H : List AObj) (env : Env) (x : Operand) : Option (FuncId × List IV × List Bool) :=
  match opd env x with
  | some (.i (.clo f caps)) => some (f, caps, opdOb env none x)
  | some (.clo f caps) => match low T H 6 (.clo f caps) with
    | some (.clo g m, obs) => some (g, m, opdOb env none x ++ obs)
    | _ => none
  | _ => none

theorem calleeOf_sound {a : Act} (h : Rel C env H I X a.tmps w) {x : Operand} {f : FuncId} {caps : List IV} {obs : List Bool} (hc : calleeOf T H env x = some (f, caps, obs)) (ho : allTrue obs) :
    ∃ cs : List Value, a.eval x = .func (.func f) #[] cs.toArray ∧ crelAll (fun b => I b ∨ ownSet H X b) w caps cs := by
  unfold calleeOf at hc
  split at hc
  · rename_i f' caps' hx
    cases hc
    obtain ⟨g, g1, _, g3, _⟩ := opd_sound h hx
    obtain ⟨vs, h1, h2⟩ := g1 (g3 _ rfl ho)
    simp only [List.cons.injEq, and_true] at h1
    exact ⟨vs, h1, crelAll_mono (fun _ h => .inl h) (fun _ _ => rfl) _ _ h2⟩
  · rename_i f' caps' hx
    split at hc
    · rename_i g m obs' hl
      cases hc
      rw [allTrue_append] at ho
      obtain ⟨b, g1, _, g3, _⟩ := opd_sound h hx
      have := low_sound h.hok 6 _ _ _ _ (g1 (g3 _ rfl ho.1)) hl ho.2
      obtain ⟨vs, h1, h2⟩ := this
      simp only [List.cons.injEq, and_true] at h1
      exact ⟨vs, h1, h2⟩
    · cases hc
  · cases hc

/-- is nothing of the caller's own handed to the callee -/
def allImmOps (env : Env) : List Operand → Bool
  | [] => true
  | x :: r => match opd env x with
    | some (.i _) => allImmOps env r
    | _ => false

theorem immArgs_sound {a : Act} (h : Rel C env H I X a.tmps w) : ∀ {l : List Operand} {m : List IV} {obs : List Bool}, allImmOps env l = true → lowArgs T H env l = some (m, obs) → allTrue obs →
    arelAll I w X' (m.map .i) (l.map a.eval)
  | [], m, obs, _, hl, _ => by simp only [lowArgs, Option.some.injEq, Prod.mk.injEq] at hl; obtain ⟨rfl, _⟩ := hl; rfl
  | x :: l, m, obs, hi, hl, ho => by
    simp only [allImmOps] at hi
    simp only [lowArgs] at hl
    split at hi
    · rename_i e0 hv
      rw [hv] at hl
      simp only [low] at hl
      split at hl
      · rename_i e o1 r o2 h1 h2
        simp only [Option.some.injEq, Prod.mk.injEq] at h1
        obtain ⟨rfl, rfl⟩ := h1
        cases hl
        rw [allTrue_append, allTrue_append] at ho
        obtain ⟨g, g1, _, g3, _⟩ := opd_sound h hv
        exact ⟨_, _, rfl, g1 (g3 _ rfl ho.1), immArgs_sound h hi h2 ho.2.2⟩
      · cases hl
    · cases hi

theorem arelAll_i_append {l m : List IV} {cs ds : List Value} (h1 : arelAll I w X (l.map .i) cs) (h2 : crelAll I w m ds) (hn : m.all notAgg = true) : arelAll I w X ((l ++ m).map .i) (cs ++ ds) := by
  rw [List.map_append]
  refine arelAll_append h1 ?_
  clear h1
  induction m generalizing ds with
  | nil => simpa [crelAll, arelAll] using h2
  | cons e m ih =>
    obtain ⟨v, r, rfl, h3, h4⟩ := h2
    simp only [List.all_cons, Bool.and_eq_true] at hn
    exact ⟨v, r, rfl, irel_of_crel hn.1 h3, ih h4 hn.2⟩

/-- **A call**, nothing of the caller's own handed over to be written. -/
theorem Rel.subEnv {env1 : Env} (h : Rel C env H I X tmps w) (hs : Sub env env1) : Rel C env1 H I X tmps w := { h with env := fun k v hk => h.env k v (hs k v hk) }

theorem Sub.refl (env : Env) : Sub env env := fun _ _ h => h

theorem call_core {K : Act → World → Prop} {env1 : Env} {Q : Exit → Act → World → Prop} {o : Oper} {fo : Operand} {args : Array Operand} {ts : Array TypeId} {f : FuncId} {caps ivs : List IV} {o1 o2 : List Bool} {Qc : AV → List AObj → Prop} {a : Act}
    (hrel : Rel C env H I X a.tmps w) (hsub : Sub env env1)
    (hop : o.op = .call ⟨.value fo, args, ts⟩) (hfo : calleeOf T H env1 fo = some (f, caps, o1)) (ho1 : allTrue o1) (hcn : caps.all notAgg = true) (hargs : lowArgs T H env1 args.toList = some (ivs, o2)) (ho2 : allTrue o2)
    (hc : ACalls C.P f ((ivs ++ caps).map .i) [] Qc) (hpl : (∀ r H', Qc r H' → plA r ∧ plH H') ∨ (allImmOps env1 (fo :: args.toList) = true))
    (hk : ∀ r H' v w' J X'', Qc r H' → Rel C env (H ++ shH H.length H') J X'' a.tmps w' → arel J w' X'' (shA H.length r) v → refs (below (H ++ shH H.length H').length) (shA H.length r) = true → K (a.put o.dst v) w') :
    o.wp C.P a w K Q := by
  have hrel1 := hrel.subEnv hsub
  obtain ⟨cs, hev, hcap⟩ := calleeOf_sound hrel1 hfo ho1
  obtain ⟨harg, href⟩ := lowArgs_sound (X' := X) hrel1 hargs ho2
  unfold Oper.wp
  rw [run_callFn hop hev hc.1 w, Oper.upon_enter]
  have hown : ∀ b, ownSet H X b → b < w.heap.size := fun b ⟨id, row, h1, h2⟩ => blk_lt_of_orel hrel.hok h1 h2
  have hemp : ∀ (J : Nat → Prop) (X : Hd), HOk C.P J w X [] := fun J X => ⟨fun id o h => by simp at h, fun id row _ _ _ h => by simp [live] at h, fun id row _ h => by simp [live] at h⟩
  have hno : ∀ (X : Hd) b, ¬ ownSet [] X b := fun X b ⟨id, row, h, _⟩ => by simp [live] at h
  have hrefs : refsAll (below ([] : List AObj).length) ((ivs ++ caps).map .i) = true := by
    have : ∀ l : List IV, refsAll (below 0) (l.map .i) = true := by
      intro l; induction l with
      | nil => rfl
      | cons e l ih => exact refsAll_cons.2 ⟨rfl, ih⟩
    exact this _
  -- what the caller goes on with
  have go : ∀ {J : Nat → Prop} {v : Value} {w' : World} {r : AV} {H' : List AObj} {X' : Hd}, Qc r H' → arel J w' X' r v → refs (below H'.length) r = true → HOk C.P J w' X' H' → (∀ b, J b → I b ∨ w.heap.size ≤ b) → (∀ b, J b → b < w'.heap.size) →
      (∀ id row b, live H' id row → X'.blk id row = some b → w.heap.size ≤ b) → Same w w' → K (a.put o.dst v) w' := by
    intro J v w' r H' X' hq h1 h2 h3 h4 h5 h6 h7
    obtain ⟨X'', e1, e2, e3⟩ := hrel.extend h7 h3 h4 h5 h6
    refine hk r H' v w' _ X'' hq e3 (arel_mono (fun _ h => .inr h) (fun _ _ => rfl) _ _ (arel_sh e2 _ _ h1)) ?_
    have := refs_sh (n := H.length) r h2
    simpa [shH_length] using this
  rcases hpl with hpl | hpl
  · have hcalls := hc.2 w (args.toList.map a.eval ++ cs) (fun b => I b ∨ ownSet H X b) X (hemp _ _) (fun b hb => hb.elim (hrel.ilt b) (hown b)) (arelAll_i_append harg hcap hcn) hrefs
    refine hcalls.mono ?_
    rintro e w' ⟨v, r, H', I', X', rfl, hr⟩
    obtain ⟨p1, p2⟩ := hpl r H' hr.q
    have hsame : Same w w' := ⟨hr.keep.os, hr.keep.tape, hr.keep.output, hr.keep.size, fun b hb => hr.keep.block b hb (hno X b)⟩
    refine go (J := fun b => I' b ∧ w.heap.size ≤ b) hr.q (arel_pl _ _ p1 hr.rel) hr.refs ⟨fun id o ho => orel_pl (plH_get p2 ho) (hr.hok.obj id o ho), hr.hok.inj, fun id row b h1 h2 hJ => hr.hok.off id row b h1 h2 hJ.1⟩
      (fun b hb => .inr hb.2) (fun b hb => hr.ilt b hb.1) (fun id row b h1 h2 => (hr.own id row b h1 h2).resolve_left (hno X b)) hsame
  · have hfi : ∃ f' caps', opd env1 fo = some (.i (.clo f' caps')) := by
      simp only [allImmOps] at hpl
      split at hpl
      · rename_i e he
        unfold calleeOf at hfo
        rw [he] at hfo
        cases e with
        | clo f' caps' => exact ⟨f', caps', he⟩
        | _ => simp at hfo
      · cases hpl
    obtain ⟨f', caps', hfi⟩ := hfi
    have hpl2 : allImmOps env1 args.toList = true := by simpa [allImmOps, hfi] using hpl
    have harg2 := immArgs_sound (X' := X) hrel1 hpl2 hargs ho2
    have hcap2 : crelAll I w caps cs := by
      unfold calleeOf at hfo
      rw [hfi] at hfo
      cases hfo
      obtain ⟨g, g1, _, g3, _⟩ := opd_sound hrel1 hfi
      obtain ⟨vs, h1, h2⟩ := g1 (g3 _ rfl ho1)
      simp only [List.cons.injEq, and_true] at h1
      rw [hev] at h1
      injection h1 with _ _ h1
      have : cs = vs := by simpa using congrArg Array.toList h1
      rw [this]; exact h2
    have hcalls := hc.2 w (args.toList.map a.eval ++ cs) I X (hemp _ _) hrel.ilt (arelAll_i_append harg2 hcap2 hcn) hrefs
    refine hcalls.mono ?_
    rintro e w' ⟨v, r, H', I', X', rfl, hr⟩
    have hsame : Same w w' := ⟨hr.keep.os, hr.keep.tape, hr.keep.output, hr.keep.size, fun b hb => hr.keep.block b hb (hno X b)⟩
    exact go (J := I') hr.q hr.rel hr.refs hr.hok hr.sup hr.ilt (fun id row b h1 h2 => (hr.own id row b h1 h2).resolve_left (hno X b)) hsame

theorem AOps.call {all rest : List Oper} {Q : Post} {o : Oper} {fo : Operand} {args : Array Operand} {ts : Array TypeId} {f : FuncId} {caps ivs : List IV} {o1 o2 : List Bool} {Qc : AV → List AObj → Prop}
    (hop : o.op = .call ⟨.value fo, args, ts⟩) (hg : o.guard = none) (hfo : calleeOf T H env fo = some (f, caps, o1)) (ho1 : allTrue o1) (hcn : caps.all notAgg = true) (hargs : lowArgs T H env args.toList = some (ivs, o2)) (ho2 : allTrue o2)
    (hc : ACalls C.P f ((ivs ++ caps).map .i) [] Qc) (hpl : (∀ r H', Qc r H' → plA r ∧ plH H') ∨ (allImmOps env (fo :: args.toList) = true))
    (hk : ∀ r H', Qc r H' → ∃ env', dput C.N o.dst (shA H.length r) env = some env' ∧ AOps C all rest Q env' (H ++ shH H.length H')) : AOps C all (o :: rest) Q env H := by
  intro a w hst
  obtain ⟨hd, I, X, hrel⟩ := hst
  have hwant : Region.wanted o (yielded all.toArray a.tmps) = true := by unfold Region.wanted; rw [hg]
  show (if Region.wanted o (yielded all.toArray a.tmps) then _ else _)
  rw [if_pos hwant]
  refine .inl (call_core hrel (Sub.refl _) hop hfo ho1 hcn hargs ho2 hc hpl ?_)
  intro r H' v w' J X'' hq e3 e4 e5
  obtain ⟨env', hput, hops⟩ := hk r H' hq
  refine hops _ _ ⟨by rw [(put_tmps a o.dst v).2]; exact hd, J, X'', ?_⟩
  rw [(put_tmps a o.dst v).1]
  exact dput_rel e3 e4 e5 hput

/-- the contract of a function with one answer -/
def AFn (P : Program) (f : FuncId) (ivs : List IV) (r : AV) (H : List AObj) : Prop := ACalls P f (ivs.map .i) [] (fun r' H' => r' = r ∧ H' = H)

/-- **A call of a function with one answer.** -/
theorem AOps.callF {all rest : List Oper} {Q : Post} {o : Oper} {fo : Operand} {args : Array Operand} {ts : Array TypeId} {f : FuncId} {caps ivs : List IV} {o1 o2 : List Bool} {r : AV} {H2 : List AObj}
    (hop : o.op = .call ⟨.value fo, args, ts⟩) (hg : o.guard = none) (hfo : calleeOf T H env fo = some (f, caps, o1)) (hcn : caps.all notAgg = true) (hargs : lowArgs T H env args.toList = some (ivs, o2)) (ho : allTrue (o1 ++ o2))
    (hc : AFn C.P f (ivs ++ caps) r H2) (hpl : (plA r ∧ plH H2) ∨ (allImmOps env (fo :: args.toList) = true))
    (hput : dput C.N o.dst (shA H.length r) env = some env') (hk : AOps C all rest Q env' (H ++ shH H.length H2)) : AOps C all (o :: rest) Q env H := by
  rw [allTrue_append] at ho
  refine AOps.call hop hg hfo ho.1 hcn hargs ho.2 hc (hpl.imp (fun h r' H' ⟨h1, h2⟩ => by rw [h1, h2]; exact h) id) ?_
  rintro _ _ ⟨rfl, rfl⟩
  exact ⟨env', hput, hk⟩

/-- **A guarded call of a function with one answer**, nothing new behind it. -/
theorem AOps.callG {all rest : List Oper} {Q : Post} {o : Oper} {fo : Operand} {args : Array Operand} {ts : Array TypeId} {f : FuncId} {caps ivs : List IV} {o1 o2 : List Bool} {r : IV} {b : Bool}
    (hop : o.op = .call ⟨.value fo, args, ts⟩) (hg : guardOf all env o = some (some b)) (hfo : calleeOf T H env fo = some (f, caps, o1)) (hcn : caps.all notAgg = true) (hargs : lowArgs T H env args.toList = some (ivs, o2)) (ho : b = true → allTrue (o1 ++ o2))
    (hc : b = true → AFn C.P f (ivs ++ caps) (.i r) []) (hpl : plI r ∨ (allImmOps env (fo :: args.toList) = true))
    (hput : dput C.N o.dst (.opt b (.i r)) env = some env') (hk : AOps C all rest Q env' H) : AOps C all (o :: rest) Q env H := by
  intro a w hst
  obtain ⟨hd, I, X, hrel⟩ := id hst
  have hwant := (guardOf_sound hrel (all := all) (o := o)).2 b hg
  show (if Region.wanted o (yielded all.toArray a.tmps) then _ else _)
  cases b with
  | true =>
    rw [if_pos hwant]
    have ho := ho rfl
    rw [allTrue_append] at ho
    refine .inl (call_core hrel (Sub.refl _) hop hfo ho.1 hcn hargs ho.2 (hc rfl) (hpl.imp (fun h r' H' ⟨h1, h2⟩ => by rw [h1, h2]; exact ⟨h, trivial⟩) id) ?_)
    rintro _ _ v w' J X'' ⟨rfl, rfl⟩ e3 e4 e5
    simp only [shH, List.append_nil] at e3 e5
    refine hk _ _ ⟨by rw [(put_tmps a o.dst v).2]; exact hd, J, X'', ?_⟩
    rw [(put_tmps a o.dst v).1]
    exact dput_rel e3 (show arel J w' X'' (.opt true (.i r)) v from ⟨fun _ => e4, fun h => by cases h⟩) e5 hput
  | false =>
    rw [if_neg (by rw [hwant]; simp)]
    refine hk _ _ ⟨by rw [(put_tmps a o.dst undef).2]; exact hd, I, X, ?_⟩
    rw [(put_tmps a o.dst undef).1]
    exact dput_rel hrel (rel_undef false rfl _) rfl hput

end Go.AM

namespace Go.AM
open Go.RowKit

/-! ### a table of types, checked against the program -/
mutual
def veq : Value → Value → Bool
  | .int k n, .int k' n' => decide (k = k') && decide (n = n')
  | .bool b, .bool b' => decide (b = b')
  | .string s, .string s' => s.data.toList.isEmpty && s'.data.toList.isEmpty
  | .pointer none, .pointer none => true
  | .slice none a b, .slice none a' b' => decide (a = a') && decide (b = b')
  | .map none, .map none => true
  | .nilFunc, .nilFunc => true
  | .nilIface, .nilIface => true
  | .agg cs, .agg cs' => veqL cs.toList cs'.toList
  | _, _ => false
def veqL : List Value → List Value → Bool
  | [], [] => true
  | v :: r, v' :: r' => veq1 v v' && veqL r r'
  | _, _ => false
def veq1 : Value → Value → Bool
  | .int k n, .int k' n' => decide (k = k') && decide (n = n')
  | .bool b, .bool b' => decide (b = b')
  | .string s, .string s' => s.data.toList.isEmpty && s'.data.toList.isEmpty
  | .pointer none, .pointer none => true
  | .slice none a b, .slice none a' b' => decide (a = a') && decide (b = b')
  | .map none, .map none => true
  | .nilFunc, .nilFunc => true
  | .nilIface, .nilIface => true
  | _, _ => false
end

theorem bytes_empty {s s' : ByteArray} (h : s.data.toList.isEmpty = true) (h' : s'.data.toList.isEmpty = true) : s = s' := by
  obtain ⟨⟨l⟩⟩ := s
  obtain ⟨⟨l'⟩⟩ := s'
  simp only [List.isEmpty_iff] at h h'
  rw [h, h']

theorem veq1_sound {v v' : Value} (h : veq1 v v' = true) : v = v' := by
  cases v <;> cases v' <;> simp only [veq1] at h <;> try (cases h; done)
  all_goals first
    | (simp only [Bool.and_eq_true, decide_eq_true_eq] at h; obtain ⟨rfl, rfl⟩ := h; rfl)
    | (simp only [decide_eq_true_eq] at h; rw [h])
    | (simp only [Bool.and_eq_true] at h; rw [bytes_empty h.1 h.2])
    | skip
  · rename_i a b; cases a <;> cases b <;> simp_all [veq1]
  · rename_i a _ _ b _ _; cases a <;> cases b <;> simp_all [veq1]
  · rename_i a b; cases a <;> cases b <;> simp_all [veq1]
  · rfl
  · rfl

theorem veqL_sound : ∀ {l l' : List Value}, veqL l l' = true → l = l'
  | [], [], _ => rfl
  | [], _ :: _, h => by simp [veqL] at h
  | _ :: _, [], h => by simp [veqL] at h
  | v :: r, v' :: r', h => by
    simp only [veqL, Bool.and_eq_true] at h
    rw [veq1_sound h.1, veqL_sound h.2]

theorem veq_sound {v v' : Value} (h : veq v v' = true) : v = v' := by
  by_cases ha : ∃ cs cs', v = .agg cs ∧ v' = .agg cs'
  · obtain ⟨cs, cs', rfl, rfl⟩ := ha
    simp only [veq] at h
    have := veqL_sound h
    rw [Array.ext' this]
  · refine veq1_sound ?_
    cases v <;> cases v' <;> simp only [veq] at h <;> try (cases h; done)
    all_goals first
      | (exact (ha ⟨_, _, rfl, rfl⟩).elim)
      | (rename_i a b; cases a <;> cases b <;> simp_all [veq, veq1]; done)
      | (rename_i a _ _ b _ _; cases a <;> cases b <;> simp_all [veq, veq1]; done)
      | (simpa only [veq1] using h)

def isIntTy (P : Program) (t : TypeId) : Bool := match P.underlying t with
  | some (.int _) => true
  | _ => false

def descOk (P : Program) (t : TypeId) : Option TypeDesc → Ty → Bool
  | some .bool, .bool => true
  | some (.int k), .int k' => decide (k = k')
  | some .string, .str => true
  | some (.pointer e), .ptr e' => decide (e = e')
  | some (.slice e), .slice e' => decide (e = e')
  | some (.struct arr), .struct fs eqk => decide (arr.toList.map (fun f => (f.offset, f.type)) = fs) &&
      (!eqk || (!P.stoodInHeld t && !P.eqGuardType P.depth t && arr.toList.all fun f => f.name != "_" && isIntTy P f.type))
  | some (.map k e), .map k' e' => decide (k = k') && decide (e = e')
  | some (.func _ _ _), .func => true
  | _, .other => true
  | _, _ => false

def tiOk (P : Program) (t : TypeId) (i : TI) : Bool :=
  match P.info? t with
  | some info => decide (info.size = i.size) && decide (info.bytes = i.bytes) && (match info.zero with | some z => veq z i.zv | none => false) && decide (i.zero.length = i.size) && i.zero.all Value.oneCell' && descOk P t (P.underlying t) i.ty
  | none => false

def ttOkFrom (P : Program) : Nat → TT → Bool
  | _, [] => true
  | t, none :: r => ttOkFrom P (t + 1) r
  | t, some i :: r => tiOk P t i && ttOkFrom P (t + 1) r

theorem descOk_sound {P : Program} {t : TypeId} {ty : Ty} (h : descOk P t (P.underlying t) ty = true) : tyOk P t ty := by
  generalize hd : P.underlying t = d at h
  unfold descOk at h
  split at h
  · exact hd
  · simp only [decide_eq_true_eq] at h; subst h; exact hd
  · exact hd
  · simp only [decide_eq_true_eq] at h; subst h; exact hd
  · simp only [decide_eq_true_eq] at h; subst h; exact hd
  · rename_i arr fs eqk
    simp only [Bool.and_eq_true, decide_eq_true_eq, Bool.or_eq_true, Bool.not_eq_true'] at h
    refine ⟨arr, hd, h.1, fun he => ?_⟩
    rcases h.2 with h2 | ⟨⟨h2, h3⟩, h4⟩
    · rw [he] at h2; cases h2
    · refine ⟨h2, h3, fun f hf => ?_⟩
      rw [List.all_eq_true] at h4
      have := h4 f hf
      simp only [Bool.and_eq_true, bne_iff_ne, ne_eq] at this
      refine ⟨this.1, ?_⟩
      have h5 := this.2
      unfold isIntTy at h5
      split at h5
      · rename_i k hk; exact ⟨k, hk⟩
      · cases h5
  · simp only [Bool.and_eq_true, decide_eq_true_eq] at h; obtain ⟨rfl, rfl⟩ := h; exact hd
  · exact ⟨_, _, _, hd⟩
  · trivial
  · cases h

theorem ttOkFrom_sound {P : Program} : ∀ {T : TT} {k : Nat}, ttOkFrom P k T = true → ∀ t i, T.at t = some i → tiOk P (k + t) i = true
  | [], k, _, t, i, h => by simp [TT.at] at h
  | none :: r, k, hk, t, i, h => by
    cases t with
    | zero => simp [TT.at] at h
    | succ t => have := ttOkFrom_sound (T := r) (k := k + 1) hk t i h; rwa [show k + 1 + t = k + (t + 1) by omega] at this
  | some j :: r, k, hk, t, i, h => by
    simp only [ttOkFrom, Bool.and_eq_true] at hk
    cases t with
    | zero => simp only [TT.at, Option.some.injEq] at h; subst h; exact hk.1
    | succ t => have := ttOkFrom_sound (T := r) (k := k + 1) hk.2 t i h; rwa [show k + 1 + t = k + (t + 1) by omega] at this

theorem TTok.of {P : Program} {T : TT} (h : ttOkFrom P 0 T = true) : TTok P T := by
  refine ⟨fun t i ht => ?_⟩
  have h1 := ttOkFrom_sound h t i ht
  rw [Nat.zero_add] at h1
  unfold tiOk at h1
  split at h1
  · rename_i info hi
    simp only [Bool.and_eq_true, decide_eq_true_eq] at h1
    obtain ⟨⟨⟨⟨⟨h2, h3⟩, h4⟩, h5⟩, h6⟩, h7⟩ := h1
    split at h4
    · rename_i z hz
      refine ⟨descOk_sound h7, info, hi, h2, h3, by rw [hz, veq_sound h4], h5, fun v hv => ?_⟩
      rw [List.all_eq_true] at h6
      exact h6 v hv
    · cases h4
  · cases h1

end Go.AM

namespace Go.AM
open Go.RowKit

variable {C : Ctx} {env env' : Env} {H H' : List AObj} {I : Nat → Prop} {X X' : Hd} {tmps : Array Value} {w w' : World} {P : Program} {T : TT}

/-! ### what a function hands back, without its other objects -/
mutual
def renA (s : List Nat) : AV → AV
  | .i v => .i v
  | .agg l => .agg (renL s l)
  | .tup l => .tup (renL s l)
  | .osl id row => .osl (s.getD id 0) row
  | .oel id row k j off => .oel (s.getD id 0) row k j off
  | .optr id off => .optr (s.getD id 0) off
  | .clo f l => .clo f (renL s l)
  | .omap id => .omap (s.getD id 0)
  | .opt g v => .opt g (renA s v)
  | .any => .any
def renL (s : List Nat) : List AV → List AV
  | [] => []
  | v :: r => renA s v :: renL s r
end

section
variable {s : List Nat} (hX : ∀ id row, X'.val id row = X.val (s.getD id 0) row)
include hX
mutual
theorem arel_ren : ∀ (v : AV) (x : Value), arel I w X (renA s v) x → arel I w X' v x
  | .i _, _, h => h
  | .agg l, _, h => by obtain ⟨cs, h1, h2, h3⟩ := h; exact ⟨cs, h1, arelAll_ren l cs h2, h3⟩
  | .tup l, _, h => by obtain ⟨cs, h1, h2⟩ := h; exact ⟨cs, h1, arelAll_ren l cs h2⟩
  | .osl id row, x, h => by simp only [renA, arel, hX] at h ⊢; exact h
  | .oel id row s j off, x, h => by simp only [renA, arel, hX] at h ⊢; exact h
  | .optr id off, x, h => by simp only [renA, arel, hX] at h ⊢; exact h
  | .clo _ l, _, h => by obtain ⟨cs, h1, h2⟩ := h; exact ⟨cs, h1, arelAll_ren l cs h2⟩
  | .omap id, x, h => by simp only [renA, arel, hX] at h ⊢; exact h
  | .opt _ v, x, h => ⟨fun g => arel_ren v x (h.1 g), h.2⟩
  | .any, _, _ => trivial
theorem arelAll_ren : ∀ (l : List AV) (cs : List Value), arelAll I w X (renL s l) cs → arelAll I w X' l cs
  | [], _, h => h
  | e :: l, _, h => by
    obtain ⟨v, r, h1, h2, h3⟩ := h
    exact ⟨v, r, h1, arel_ren e v h2, arelAll_ren l r h3⟩
end
end

def noRefs : AObj → Bool
  | .box .. => false
  | _ => true

/-- the objects of the second list are those of the first, at these places -/
def selH (H : List AObj) : List Nat → List AObj → Prop
  | [], l => l = []
  | i :: s, l => ∃ o l' o', l = o' :: l' ∧ H[i]? = some o ∧ noRefs o = true ∧ objEq o o' ∧ selH H s l'

theorem selH_get : ∀ {s : List Nat} {l : List AObj}, selH H s l → l.length = s.length ∧ ∀ k o', l[k]? = some o' → ∃ o, H[s.getD k 0]? = some o ∧ noRefs o = true ∧ objEq o o'
  | [], l, h => by simp only [selH] at h; subst h; exact ⟨rfl, fun k o h => by simp at h⟩
  | i :: s, l, h => by
    obtain ⟨o, l', o', rfl, h1, h2, h3, h4⟩ := h
    obtain ⟨h5, h6⟩ := selH_get h4
    refine ⟨by simp [h5], fun k o2 hk => ?_⟩
    cases k with
    | zero => simp at hk; subst hk; exact ⟨o, by simpa using h1, h2, h3⟩
    | succ k => simpa using h6 k o2 (by simpa using hk)

def nodupB : List Nat → Bool
  | [] => true
  | i :: s => !(s.contains i) && nodupB s

theorem nodupB_get : ∀ {s : List Nat}, nodupB s = true → ∀ i j, i < s.length → j < s.length → s.getD i 0 = s.getD j 0 → i = j
  | [], _, i, _, h, _, _ => by simp at h
  | a :: s, hn, i, j, hi, hj, he => by
    simp only [nodupB, Bool.and_eq_true, Bool.not_eq_true', List.contains_eq_mem, decide_eq_false_iff_not] at hn
    have hm : ∀ k, k < s.length → s.getD k 0 ∈ s := fun k hk => by simp [hk]
    rcases i with _ | i <;> rcases j with _ | j
    · rfl
    · simp only [List.getD_cons_zero, List.getD_cons_succ] at he
      exact (hn.1 (he ▸ hm j (by simpa using hj))).elim
    · simp only [List.getD_cons_zero, List.getD_cons_succ] at he
      exact (hn.1 (he ▸ hm i (by simpa using hi))).elim
    · simp only [List.getD_cons_succ] at he
      rw [nodupB_get hn.2 i j (by simpa using hi) (by simpa using hj) he]

theorem orel_noRefs {len len' id id' : Nat} {o o' : AObj} (hX : ∀ row, X'.val id' row = X.val id row) (hn : noRefs o = true) (he : objEq o o') (h : orel P I w X len id o) : orel P I w X' len' id' o' := by
  have h1 := objEq_orel he h
  cases o with
  | box t cells => cases hn
  | dead => cases o' <;> simp only [objEq] at he <;> first | trivial | (cases he; done)
  | arr fx t s n f =>
    cases o' <;> simp only [objEq] at he <;> try (first | exact he.elim | (cases he; done))
    show rowrel _ _ _ _ _ _ _
    rw [hX]; exact h1
  | arr2 fx t tr sr n g hole =>
    cases o' <;> simp only [objEq] at he <;> try (first | exact he.elim | (cases he; done))
    obtain ⟨⟨xs, h1, h2, h3⟩, h4⟩ := h1
    exact ⟨⟨xs, by rw [hX]; exact h1, h2, fun j hj hh => by rw [hX]; exact h3 j hj hh⟩, fun j hj hh => by rw [hX]; exact h4 j hj hh⟩
  | map k et card dom val =>
    cases o' <;> simp only [objEq] at he <;> try (first | exact he.elim | (cases he; done))
    obtain ⟨r, es, clock, h1, h2⟩ := h1
    exact ⟨r, es, clock, by rw [hX]; exact h1, h2⟩

theorem Ret.project {I' : Nat → Prop} {v : Value} {r r' : AV} {Q Q' : AV → List AObj → Prop} (h : Ret P [] Q I X w v w' r H' I' X') {s : List Nat} {H2 : List AObj} (hr : renA s r' = r) (hs : selH H' s H2) (hn : nodupB s = true) (hrefs : Go.AM.refs (below s.length) r' = true) (hq : Q' r' H2) :
    ∃ r H2 X', Ret P [] Q' I X w v w' r H2 I' X' := by
  obtain ⟨hlen, hget⟩ := selH_get hs
  let X2 : Hd := ⟨fun id row => X'.val (s.getD id 0) row⟩
  have hlive : ∀ id row, live H2 id row → id < s.length ∧ live H' (s.getD id 0) row := by
    intro id row hl
    unfold live at hl
    cases ho : H2[id]? with
    | none => rw [ho] at hl; exact hl.elim
    | some o' =>
      rw [ho] at hl
      obtain ⟨o, h1, h2, h3⟩ := hget id o' ho
      refine ⟨by rw [← hlen]; exact (List.getElem?_eq_some_iff.1 ho).1, ?_⟩
      unfold live
      rw [h1]
      exact (objEq_live h3 row).1 hl
  have hb : ∀ id row, X2.blk id row = X'.blk (s.getD id 0) row := fun _ _ => rfl
  refine ⟨r', H2, X2, hq, arel_ren (X' := X2) (fun _ _ => rfl) _ _ (hr ▸ h.rel), by rw [hlen]; exact hrefs, ⟨fun id o' ho' => ?_, fun id row id' row' b h1 h2 h3 h4 => ?_, fun id row b h1 h2 => ?_⟩, h.sub, h.sup, h.ilt, fun id row b h1 h2 => ?_, h.keep, fun k o hk _ => by simp at hk⟩
  · obtain ⟨o, h1, h2, h3⟩ := hget id o' ho'
    exact orel_noRefs (X' := X2) (X := X') (id := s.getD id 0) (fun _ => rfl) h2 h3 (h.hok.obj _ o h1)
  · obtain ⟨g1, g2⟩ := hlive _ _ h1
    obtain ⟨g3, g4⟩ := hlive _ _ h2
    obtain ⟨e1, e2⟩ := h.hok.inj _ _ _ _ b g2 g4 h3 h4
    exact ⟨nodupB_get hn _ _ g1 g3 e1, e2⟩
  · exact h.hok.off _ row b (hlive _ _ h1).2 h2
  · exact h.own _ row b (hlive _ _ h1).2 h2

/-- how a result with objects is told to the caller -/
def Tells (r : AV) (H : List AObj) (r' : AV) (H2 : List AObj) : Prop := ∃ s : List Nat, renA s r' = r ∧ selH H s H2 ∧ nodupB s = true ∧ refs (below s.length) r' = true

theorem ACalls.told {f : FuncId} {args : List AV} {Q Q' : AV → List AObj → Prop} (h : ACalls P f args [] Q) (hq : ∀ r H', Q r H' → ∃ r' H2, Tells r H' r' H2 ∧ Q' r' H2) : ACalls P f args [] Q' :=
  ⟨h.1, fun w vs I X h1 h2 h3 h4 => (h.2 w vs I X h1 h2 h3 h4).mono fun _ _ ⟨v, r, H', I', X', he, hr⟩ => by
    obtain ⟨r', H2, ⟨s, g1, g2, g3, g4⟩, g5⟩ := hq _ _ hr.q
    obtain ⟨r3, H3, X3, h5⟩ := hr.project g1 g2 g3 g4 g5
    exact ⟨v, r3, H3, I', X3, he, h5⟩⟩

/-- **a function's contract from its body** -/
theorem AFn.of_body (hT : TTok P T) {f : FuncId} {fn : Func} {c : Code} {l : List ResultVar} {ivs : List IV} {r : AV} {H2 : List AObj} (N : Nat) (hf : P.funcs[f]? = some fn) (hb : fn.body = some c) (hl : fn.results = l.toArray)
    (hN : fn.ntmps = N) (ha : ivs.length ≤ N) (hname : (fn.name == "runtime.NumGoroutine") = false)
    (h : ∀ C : Ctx, C.P = P → C.N = N → TTok C.P T → (∀ k, C.fx k = true → k < 0) → AWp C c (EndsIn T l (fun r' H' => Tells r' H' r H2)) (argEnv 0 (ivs.map .i)) []) : AFn P f ivs r H2 :=
  ACalls.told (acalls_of_body hT N hf hb hl hN (by simpa using ha) hname h) (fun _ _ ht => ⟨r, H2, ht, rfl, rfl⟩)

theorem Tells.imm {v : IV} : Tells (.i v) H (.i v) [] := ⟨[], rfl, rfl, rfl, rfl⟩

end Go.AM

namespace Go.AM
open Go.RowKit Go.ChangeShapes Go.WideShapes

variable {P : Program} {T : TT} {α β : Type}

/-! ### from the statement's reading of an argument to immutable data -/
abbrev old (w : World) : Nat → Prop := fun b => b < w.heap.size

structure Rd (P : Program) (t : TypeId) (enc : α → IV) (ok : α → Prop) : Prop where
  rd : ∀ {H : Type} (e : TypeId × Value → H) (w : World) (fuel : Nat) (cs : List Value) (x : DataW H × List MemPlace), DataW.trod e P w 0 (fun _ => true) true fuel t cs = some x →
    ∃ a, ok a ∧ crel (old w) w (enc a) cs
  top : ∀ (w w' : World) (I : Nat → Prop) (r : Reach) (b : Nat) (v : Value) (a : α), Value.okWide P w' r b t v → crel I w (enc a) v.cells.toList → irel I w (enc a) v

theorem irel_of_crel_one {I : Nat → Prop} {w : World} {e : IV} {v : Value} (hn : notAgg e = true) (hv : ∀ cs, v ≠ .agg cs) (h : crel I w e v.cells.toList) : irel I w e v := by
  have : v.cells = #[v] := by
    unfold Value.cells
    split
    · rename_i cs; exact (hv cs rfl).elim
    · rfl
  rw [this] at h
  exact irel_of_crel hn h

theorem notAgg_of_cell {w : World} {r : Reach} {b : Nat} {t : TypeId} {v : Value} (h : Value.okWide P w r b t v) (ht : (∃ k, P.underlying t = some (.int k)) ∨ P.underlying t = some .bool ∨ P.underlying t = some .string ∨ (∃ e, P.underlying t = some (.slice e)) ∨ (∃ e, P.underlying t = some (.pointer e))) : ∀ cs, v ≠ .agg cs := by
  rintro cs rfl
  rcases ht with ⟨k, ht⟩ | ht | ht | ⟨e, ht⟩ | ⟨e, ht⟩ <;> simp [Value.okWide, Cell.okWide, Cell.ok, ht] at h

theorem Rd.int {t : TypeId} {k : IntKind} (ht : P.underlying t = some (.int k)) : Rd P t (fun n : Int => .c (.int k n)) (fun n => k.min ≤ n ∧ n ≤ k.max) where
  rd e w fuel cs x h := by
    obtain ⟨n, rfl, _, hw⟩ := DataW.trod_int ht h
    exact ⟨n, by simpa [Lit.wf] using hw, rfl, rfl⟩
  top w w' I r b v a h hc := irel_of_crel_one rfl (notAgg_of_cell h (.inl ⟨k, ht⟩)) hc

theorem Rd.bool {t : TypeId} (ht : P.underlying t = some .bool) : Rd P t (fun b : Bool => .c (.bool b)) (fun _ => True) where
  rd e w fuel cs x h := by
    obtain ⟨n, rfl, _⟩ := DataW.trod_bool ht h
    exact ⟨n, trivial, rfl, rfl⟩
  top w w' I r b v a h hc := irel_of_crel_one rfl (notAgg_of_cell h (.inr (.inl ht))) hc

theorem Rd.str {t : TypeId} (ht : P.underlying t = some .string) : Rd P t (fun s : ByteArray => .c (.string s)) (fun s => s.size ≤ maxLen) where
  rd e w fuel cs x h := by
    obtain ⟨n, rfl, _, hw⟩ := DataW.trod_string ht h
    exact ⟨n, hw, rfl, rfl⟩
  top w w' I r b v a h hc := irel_of_crel_one rfl (notAgg_of_cell h (.inr (.inr (.inl ht)))) hc

def lsl [Inhabited α] (s : Nat) (enc : α → IV) (l : List α) : IV := .sl s false l.length (fun j => enc (l.getD j default))

theorem cells_at {w : World} {b o : Nat} {cs : List Value} {n : Nat} (h : w.cells? 0 ⟨b, o, none⟩ n = some cs) : cs.length = n ∧ cellsAt w b o cs := by
  obtain ⟨_, h2, h3⟩ := World.cells?_some h
  refine ⟨h2, fun k v hk => ?_⟩
  have hk' : k < n := by rw [← h2]; exact (List.getElem?_eq_some_iff.1 hk).1
  rw [← hk, ← h3 k hk', Addr.add_at]

theorem block_lt_of_cells {w : World} {b o : Nat} {cs : List Value} {n : Nat} (h : w.cells? 0 ⟨b, o, none⟩ n = some cs) (hn : 0 < n) : b < w.heap.size := by
  obtain ⟨_, h2, h3⟩ := World.cells?_some h
  have h4 := h3 0 hn
  rw [List.getElem?_eq_getElem (by omega)] at h4
  rw [Addr.add_at] at h4
  exact World.block_lt_of_cell? w ⟨b, o, none⟩ (by
    rw [show (⟨b, o, none⟩ : Addr) = ⟨b, o + 0, none⟩ from rfl, h4])

theorem spot_of_cells {w : World} {a : Addr} {cs : List Value} {n : Nat} (h : w.cells? 0 a n = some cs) (hn : 0 < n) : a.spot = none := by
  obtain ⟨_, h2, h3⟩ := World.cells?_some h
  have h4 := h3 0 hn
  rw [List.getElem?_eq_getElem (by omega)] at h4
  simpa [Addr.add] using World.cell?_spot h4

theorem Rd.slice [Inhabited α] {t e : TypeId} {s : Nat} {enc : α → IV} {ok : α → Prop} (ht : P.underlying t = some (.slice e)) (hs : P.cellsOf e = s) (hs0 : 0 < s) (h : Rd P e enc ok) :
    Rd P t (lsl s enc) (fun l => l.length ≤ maxLen ∧ ∀ a ∈ l, ok a) where
  rd en w fuel cs x hx := by
    rcases DataW.trod_slice ht hx with ⟨rfl, _⟩ | ⟨a, len, cap, elems, rest, n, rfl, rfl, _, _, hle, hcap, hlen, hel, _⟩
    · exact ⟨[], ⟨Nat.zero_le _, by simp⟩, none, 0, rfl, Nat.le_refl _, by simp, .inl rfl⟩
    · subst hs
      have hsp0 : 0 < len → a.spot = none := by
        intro h0
        have h1 := hel 0 h0
        rw [List.getElem?_eq_getElem (by omega)] at h1
        simp only [Option.bind_eq_some_iff] at h1
        obtain ⟨cs', hc1, _⟩ := h1
        simpa [Addr.add] using spot_of_cells hc1 hs0
      have each : ∀ i, ∃ b : α, i < len → ok b ∧ ∃ es, es.length = P.cellsOf e ∧ a.spot = none ∧ a.block < w.heap.size ∧ crel (old w) w (enc b) es ∧ cellsAt w a.block (a.off + i * P.cellsOf e) es := by
        intro i
        by_cases hi : i < len
        · have h1 := hel i hi
          rw [List.getElem?_eq_getElem (by omega)] at h1
          simp only [Option.bind_eq_some_iff] at h1
          obtain ⟨cs', hc1, hc2⟩ := h1
          obtain ⟨b, hb1, hb2⟩ := h.rd en w n cs' _ hc2
          have hsp : a.spot = none := hsp0 (by omega)
          obtain ⟨ab, ao, asp⟩ := a
          simp only at hsp
          subst hsp
          rw [Addr.add_at] at hc1
          obtain ⟨g1, g2⟩ := cells_at hc1
          exact ⟨b, fun _ => ⟨hb1, cs', g1, rfl, block_lt_of_cells hc1 hs0, hb2, g2⟩⟩
        · exact ⟨default, fun h => (hi h).elim⟩
      let f : Nat → α := fun i => Classical.choose (each i)
      have hf : ∀ i, i < len → ok (f i) ∧ ∃ es, es.length = P.cellsOf e ∧ a.spot = none ∧ a.block < w.heap.size ∧ crel (old w) w (enc (f i)) es ∧ cellsAt w a.block (a.off + i * P.cellsOf e) es := fun i hi => Classical.choose_spec (each i) hi
      refine ⟨(List.range len).map f, ⟨by simp; omega, fun b hb => ?_⟩, some a, cap, by simp, by simpa using hle, fun h => (by cases h), ?_⟩
      · simp only [List.mem_map, List.mem_range] at hb
        obtain ⟨i, hi, rfl⟩ := hb
        exact (hf i hi).1
      · by_cases h0 : len = 0
        · left; simp [h0]
        · right
          obtain ⟨_, _, _, hsp, hlt, _⟩ := hf 0 (by omega)
          obtain ⟨ab, ao, asp⟩ := a
          simp only at hsp
          subst hsp
          refine ⟨ab, ao, rfl, hlt, fun j hj => ?_⟩
          simp only [List.length_map, List.length_range] at hj
          obtain ⟨_, es, e1, _, _, e4, e5⟩ := hf j hj
          refine ⟨es, e1, ?_, e5⟩
          have : ((List.range len).map f).getD j default = f j := by simp [List.getD, hj]
          show crel (old w) w (enc (((List.range len).map f).getD j default)) es
          rw [this]; exact e4
  top w w' I r b v a h hc := irel_of_crel_one rfl (notAgg_of_cell h (.inr (.inr (.inr (.inl ⟨e, ht⟩))))) hc

def lptr (enc : α → IV) : Option α → IV
  | none => .c (.pointer none)
  | some a => .ptr (enc a)

theorem Rd.ptr {t e : TypeId} {enc : α → IV} {ok : α → Prop} (ht : P.underlying t = some (.pointer e)) (hs0 : 0 < P.cellsOf e) (h : Rd P e enc ok) :
    Rd P t (lptr enc) (fun o => ∀ a, o = some a → ok a) where
  rd en w fuel cs x hx := by
    rcases DataW.trod_pointer ht hx with ⟨rfl, _⟩ | ⟨a, cs', y, n, rfl, rfl, _, hc, hy⟩
    · exact ⟨none, by simp, rfl, rfl⟩
    · obtain ⟨b, hb1, hb2⟩ := h.rd en w n cs' _ hy
      have hsp := spot_of_cells hc hs0
      obtain ⟨ab, ao, asp⟩ := a
      simp only at hsp
      subst hsp
      exact ⟨some b, by simpa using hb1, ab, ao, cs', rfl, block_lt_of_cells hc hs0, hb2, (cells_at hc).2⟩
  top w w' I r b v a h hc := irel_of_crel_one (by cases a <;> rfl) (notAgg_of_cell h (.inr (.inr (.inr (.inr ⟨e, ht⟩))))) hc

structure RdFs (P : Program) (fs : List Field) (k : Nat) (encs : α → List IV) (ok : α → Prop) : Prop where
  rd : ∀ {H : Type} (e : TypeId × Value → H) (w : World) (fuel : Nat) (cs : List Value), cs.length = k + fs.length → (∀ (i : Nat) (f : Field), fs[i]? = some f → ∃ y : DataW H × List MemPlace, DataW.trod e P w 0 (fun _ => true) true fuel f.type ((cs.drop f.offset).take (P.cellsOf f.type)) = some y) →
    ∃ a, ok a ∧ crelAll (old w) w (encs a) (cs.drop k)

theorem RdFs.nil {k : Nat} : RdFs P [] k (fun _ : Unit => []) (fun _ => True) where
  rd e w fuel cs hl _ := ⟨(), trivial, by
    have : cs.drop k = [] := List.drop_eq_nil_of_le (by rw [hl]; simp)
    rw [this]; rfl⟩

theorem RdFs.cons {f : Field} {fs : List Field} {k : Nat} {enc : α → IV} {ok : α → Prop} {encs : β → List IV} {oks : β → Prop} (h : Rd P f.type enc ok) (ho : f.offset = k) (hc : P.cellsOf f.type = 1) (hr : RdFs P fs (k + 1) encs oks) :
    RdFs P (f :: fs) k (fun p : α × β => enc p.1 :: encs p.2) (fun p => ok p.1 ∧ oks p.2) where
  rd e w fuel cs hl hy := by
    obtain ⟨y, hy0⟩ := hy 0 f rfl
    rw [ho, hc] at hy0
    obtain ⟨a, ha1, ha2⟩ := h.rd e w fuel _ _ hy0
    obtain ⟨b, hb1, hb2⟩ := hr.rd e w fuel cs (by rw [hl]; simp; omega) (fun i g hg => hy (i + 1) g (by simpa using hg))
    have hk : k < cs.length := by rw [hl]; simp
    rw [List.drop_eq_getElem_cons hk] at ha2 ⊢
    rw [show (cs[k] :: cs.drop (k + 1)).take 1 = [cs[k]] from rfl] at ha2
    exact ⟨(a, b), ⟨ha1, hb1⟩, _, _, rfl, ha2, hb2⟩

theorem Rd.struct {t : TypeId} {arr : Array Field} {encs : α → List IV} {ok : α → Prop} (ht : P.underlying t = some (.struct arr)) (hc : P.cellsOf t = arr.size) (h : RdFs P arr.toList 0 encs ok) : Rd P t (fun a => .agg (encs a)) ok where
  rd e w fuel cs x hx := by
    obtain ⟨xs, n, rfl, _, hl, hxl, hf⟩ := DataW.trod_struct ht hx
    obtain ⟨a, ha1, ha2⟩ := h.rd e w n cs (by rw [hl, hc]; simp) (fun i f hif => by
      have hi : i < arr.size := by simpa using (List.getElem?_eq_some_iff.1 hif).1
      rw [hf i f (by simpa using hif)]
      exact ⟨xs[i]'(by omega), List.getElem?_eq_getElem (by omega)⟩)
    exact ⟨a, ha1, show crelAll (old w) w (encs a) cs by simpa using ha2⟩
  top w w' I r b v a h hcr := by
    obtain ⟨cs, rfl, _⟩ := okWide_struct ht h
    exact ⟨cs.toList, by simp, hcr⟩

theorem Rd.map {t : TypeId} {enc : α → IV} {ok : α → Prop} (h : Rd P t enc ok) {enc' : β → IV} {ok' : β → Prop} (g : α → β) (he : ∀ a, enc a = enc' (g a)) (hok : ∀ a, ok a → ok' (g a)) (g' : β → α) (hg : ∀ b, enc (g' b) = enc' b) : Rd P t enc' ok' where
  rd e w fuel cs x hx := by
    obtain ⟨a, h1, h2⟩ := h.rd e w fuel cs x hx
    exact ⟨g a, hok a h1, he a ▸ h2⟩
  top w w' I r b v a hv hc := by
    rw [← hg] at hc ⊢
    exact h.top w w' I r b v _ hv hc

/-! ### all arguments -/
structure RdAll (P : Program) (ts : List TypeId) (encs : α → List IV) (ok : α → Prop) : Prop where
  rd : ∀ {H : Type} (e : TypeId × Value → H) (w w' : World) (r : Reach) (b : Nat) (vs : List Value) (ds : List (DataW H)) (ps : List MemPlace), DataW.TrodAll e P w 0 (fun _ => true) true ts vs ds ps →
    (∀ (j : Nat) t v, ts[j]? = some t → vs[j]? = some v → Value.okWide P w' r b t v) → ∃ a, ok a ∧ ds.length = ts.length ∧ ∀ X, arelAll (old w) w X ((encs a).map .i) vs

theorem RdAll.nil : RdAll P [] (fun _ : Unit => []) (fun _ => True) where
  rd e w w' r b vs ds ps h _ := by
    obtain ⟨rfl, rfl, _⟩ := trodAll_nil h
    exact ⟨(), trivial, rfl, fun _ => rfl⟩

theorem RdAll.cons {t : TypeId} {ts : List TypeId} {enc : α → IV} {ok : α → Prop} {encs : β → List IV} {oks : β → Prop} (h : Rd P t enc ok) (hr : RdAll P ts encs oks) :
    RdAll P (t :: ts) (fun p : α × β => enc p.1 :: encs p.2) (fun p => ok p.1 ∧ oks p.2) where
  rd e w w' r b vs ds ps hA hv := by
    obtain ⟨v, vs1, d, ds1, p, q, rfl, rfl, rfl, ⟨n, h1⟩, h2⟩ := trodAll_cons hA
    obtain ⟨a, ha1, ha2⟩ := h.rd e w n _ _ h1
    obtain ⟨c, hc1, hl, hc2⟩ := hr.rd e w w' r b _ _ _ h2 (fun j t v g1 g2 => hv (j + 1) t v (by simpa using g1) (by simpa using g2))
    exact ⟨(a, c), ⟨ha1, hc1⟩, by simp [hl], fun X => ⟨v, vs1, rfl, h.top _ _ _ _ _ _ _ (hv 0 t v rfl rfl) ha2, hc2 X⟩⟩

theorem RdAll.map {ts : List TypeId} {encs : α → List IV} {ok : α → Prop} (h : RdAll P ts encs ok) {encs' : β → List IV} {ok' : β → Prop} (g : α → β) (he : ∀ a, encs a = encs' (g a)) (hok : ∀ a, ok a → ok' (g a)) : RdAll P ts encs' ok' where
  rd e w w' r b vs ds ps hA hv := by
    obtain ⟨a, h1, h2, h3⟩ := h.rd e w w' r b vs ds ps hA hv
    exact ⟨g a, hok a h1, h2, fun X => he a ▸ h3 X⟩

/-! ### a law that returns true and changes nothing -/
theorem trodAll_carry {H : Type} {enc : TypeId × Value → H} {w w' : World} {base : Nat} {sp : Nat → Bool} {held : Bool} : ∀ {ts : List TypeId} {vs : List Value} {ds : List (DataW H)} {ps : List MemPlace},
    DataW.TrodAll enc P w base sp held ts vs ds ps → (∀ p ∈ ps, w.sameAt w' p) → DataW.TrodAll enc P w' base sp held ts vs ds ps
  | [], [], [], _, h, _ => h
  | _ :: _, _ :: _, _ :: _, _, ⟨p, q, ⟨n, h1⟩, h2, e⟩, hs => ⟨p, q, ⟨n, DataW.trod_carry n _ _ _ h1 (fun x hx => hs x (by rw [e]; exact List.mem_append_left _ hx))⟩, trodAll_carry h2 (fun x hx => hs x (by rw [e]; exact List.mem_append_right _ hx)), e⟩

theorem Keep.sameAt {O : Nat → Prop} {w w' : World} (h : Keep O w w') (hO : ∀ b, ¬ O b) (p : MemPlace) (hp : p.block < w.heap.size) : w.sameAt w' p := by
  cases p with
  | cell b o => simp only [World.sameAt, World.cell?, h.block b hp (hO b)]
  | map b => exact h.block b hp (hO b)

theorem Keep.keptBut {O : Nat → Prop} {w w' : World} (h : Keep O w w') (hO : ∀ b, ¬ O b) (may : MemPlace → Prop) : w.keptBut w' may := by
  refine ⟨h.os, h.output, fun i hi => ?_⟩
  rw [h.block i hi (hO i)]
  cases w.heap[i]? with
  | none => trivial
  | some o => cases o <;> simp

theorem law_contract {C : Program} (hP : C = P) {f : FuncId} {fn : Func} {s : ChangeSpec} {tb : TypeId} {ts : List TypeId} {encs : α → List IV} {ok : α → Prop}
    (hps : fn.params.toList = ts) (hrs : fn.resultTypes = #[tb]) (hb : P.underlying tb = some .bool) (hvars : s.vars = [])
    (hkids : Kids P (· < P.types.size)) (hfull : ∀ t e, t < P.types.size → P.underlying t = some (.slice e) → 0 < P.cellsOf e) (hts : ∀ t ∈ ts, t < P.types.size)
    (hrd : RdAll P ts encs ok) (hs : ∀ (H : Type) (ds : List (DataW H)), ds.length = ts.length → s.fn H ds = { results := [.lit (.bool true)], args := ds })
    (hlaw : ∀ a, ok a → AFn P f (encs a) (.i (.c (.bool true))) [])
    (H : Type) (enc : TypeId × Value → H) (W : World) (base : Nat) (args : Array Value) (ds gs : List (DataW H)) (before : List MemPlace)
    (hval : ∀ (j : Nat) t v, fn.params[j]? = some t → args[j]? = some v → Value.okWide C W .any base t v)
    (hW : DataW.Whole enc C fn.params.toList s.vars false W args.toList ds gs before) :
    Calls C f args W fun e W' => ∃ v, e = .returned v ∧ s.post enc C fn false true false false W args v W' := by
  subst hP
  have hW' := hW
  obtain ⟨p, q, hA, hV, rfl, hfz, hnd⟩ := hW
  rw [hvars] at hV
  obtain ⟨rfl, rfl⟩ := trodVars_none hV
  rw [hps] at hA
  obtain ⟨a, ha, hdl, hrel⟩ := hrd.rd enc W W .any base args.toList ds p hA (fun j t v h1 h2 => hval j t v (by rw [← hps] at h1; simpa using h1) (by simpa using h2))
  have hcall := (hlaw a ha).2 W args.toList (old W) ⟨fun _ _ => undef⟩ ⟨fun id o h => by simp at h, fun id row _ _ _ h => by simp [live] at h, fun id row _ h => by simp [live] at h⟩ (fun _ h => h) (hrel _) (by
    have : ∀ l : List IV, refsAll (below 0) (l.map .i) = true := by
      intro l; induction l with
      | nil => rfl
      | cons e l ih => exact refsAll_cons.2 ⟨rfl, ih⟩
    exact this _)
  have hcall' : Calls C f args W _ := hcall
  refine hcall'.mono ?_
  rintro e W' ⟨v, r, H', I', X', rfl, hr⟩
  obtain ⟨rfl, rfl⟩ := hr.q
  obtain ⟨rfl, _⟩ := irel_c.1 hr.rel
  have hno : ∀ b, ¬ ownSet ([] : List AObj) (⟨fun _ _ => undef⟩ : Hd) b := fun b ⟨id, row, h, _⟩ => by simp [live] at h
  have hsp : s.fn H (ds ++ []) = { results := [.lit (.bool true)], args := ds } := by rw [List.append_nil]; exact hs H ds hdl
  simp only [List.append_nil] at hW' hfz
  refine ⟨_, rfl, ds, [], p, [], p, [], hW', ?_, ?_, ?_, hr.keep.keptBut hno _, fun h => by cases h⟩
  · rw [hsp, hrs]
    exact trodAll_mk1 (shut_bool hb _)
  · rw [hsp, hps]
    refine trodAll_carry (w := W) (DataW.TrodAll.respare hkids hfull hts hA (fun x hx => by simpa using hW'.lt x hx)) (fun x hx => hr.keep.sameAt hno x (hW'.lt x hx))
  · rw [hsp, hvars]; rfl

end Go.AM

namespace Go.AM
open Go.RowKit

/-! ### the head of a cut program's text of make, read word by word -/
variable {P : Program} {r : List (List Char)}

theorem strip_cut : stripLifts liftWords ("cut".toList :: r) = ([], "cut".toList :: r) := by kernel_rfl

theorem mayEnter_of (h : behindMainWord (wordsSigns P.initOrder.toList) = "cut".toList :: r) (hl : P.laysLater = false) (hb : P.bearsReflect = false) (hd : P.doorFits [] = true) : P.mayEnter = true := by
  unfold Program.mayEnter
  rw [h]
  simp only [strip_cut, hl, hb, hd]
  have e : ((some "cut".toList : Option (List Char)) == some "cut".toList) = true := by simp
  simp

theorem liftsFinal_of (h : behindMainWord (wordsSigns P.initOrder.toList) = "cut".toList :: r) : P.liftsFinal = false := by
  unfold Program.liftsFinal Program.headLifts
  simp only [h, strip_cut]
  have e : (some "cut".toList == some "carried".toList) = false := by kernel_rfl
  simp [e]

theorem make_of (h : behindMainWord (wordsSigns P.initOrder.toList) = "cut".toList :: r) : P.make = some .cut := by
  unfold Program.make
  rw [h]
  have e1 : ("cut".toList == "gc".toList) = false := by kernel_rfl
  have e2 : ("cut".toList == "spec".toList) = false := by kernel_rfl
  simp

theorem joined_of {fn : Func} {f : FuncId} {s : ChangeSpec} {c : OpenClaim} (h : behindMainWord (wordsSigns P.initOrder.toList) = "cut".toList :: r) (hl : P.laysLater = false) (hb : P.bearsReflect = false) (hd : P.doorFits [] = true) (hcl : c.lifted = false) (hcm : c.make = .cut)
    (hrest : (c.wf (OpenSpec.ofChange s) && laidOutB P && mapsRowed P &&
  fn.params.all (P.readableRec ·) && namedTie P c.named s.vars &&
  (c.stops == []) && (P.stops == []) && (c.knobs == []) && (P.stopKnobs == []) &&
  (c.inPlace == P.inPlace f) && (c.unfollowed == P.unfollowed f) && (c.recurses == P.recurses f) && (c.named == P.varsNamed f) &&
  (c.maps == (fn.params.toList ++ s.plain.varTypes P).any (P.mapsRec ·)) && (c.ifaces == (fn.params.toList ++ s.plain.varTypes P).any (P.ifacesRec ·)) && (c.mapsOut == P.mapsAmong fn.resultTypes.toList) &&
  (c.loops == (fn.params.toList ++ s.plain.varTypes P).any (P.loopsFrom ·)) && (c.wideKeys == (fn.params.toList ++ s.plain.varTypes P ++ fn.resultTypes.toList).any (P.wideKeysFrom ·)) &&
  s.vars.all (P.varReadable ·) && fn.resultTypes.all (fun t => P.readableRec t && decide (t < P.types.size)) && (c.ifacesOut == fn.resultTypes.toList.any (P.ifacesRec ·)) && (c.loopsOut == fn.resultTypes.toList.any (P.loopsFrom ·)) && (c.plainKeys == P.plainKeys) && c.shortTexts.isNone && P.stopsHeard && true && true && true && (c.kinds == (if c.domain.isEmpty then [] else fn.params.toList.map fun t => match P.underlying t with | some (.int k) => some k | _ => none)) && (c.pinned == c.pinnedBy) &&
  (c.veiled == (fn.params.toList ++ s.plain.varTypes P ++ fn.resultTypes.toList).any (P.veiledRec ·)) && c.veiledFits P fn.params.toList (fn.params.toList ++ s.plain.varTypes P ++ fn.resultTypes.toList)) = true) : joinedFacts P f fn s c = true := by
  unfold joinedFacts
  rw [mayEnter_of h hl hb hd, liftsFinal_of h, make_of h, hcl, hcm]
  exact hrest

end Go.AM

namespace Go.AM
open Go.RowKit

variable {C : Ctx} {env env' : Env} {H H' : List AObj} {I : Nat → Prop} {X X' : Hd} {tmps : Array Value} {w w' : World} {P : Program} {T : TT}

/-! ### a nil slice as an owned one -/
theorem St.adopt {a : Act} (h : St C env H a w) {k : Nat} (hk : get env k = some (.i (.c (.slice none 0 0)))) (t s : Nat) (f : Nat → IV) : St C ((k, .osl H.length none) :: env) (H ++ [.arr false t s 0 f]) a w := by
  obtain ⟨hd, I, X, hr⟩ := h
  obtain ⟨X', h1, h2, h3⟩ := hr.push (Same.refl w) (.slice none 0 0) (.arr false t s 0 f) (fun row h => h)
    (fun X' hv _ => ⟨[], by rw [hv]; exact World.ownsRow_nil _ _ _ _, fun j hj => by omega⟩) (fun b hb => by cases hb)
  refine ⟨hd, I, X', { h3 with env := fun k' v hk' => ?_ }⟩
  rw [get_cons] at hk'
  split at hk'
  · rename_i e; subst e; cases hk'
    obtain ⟨g1, _, g3⟩ := hr.env _ _ hk
    refine ⟨g1, by simp [refs, below, Nat.blt_eq], ?_⟩
    obtain ⟨g4, _⟩ := irel_c.1 g3
    exact ⟨by rw [g4, h1], none, 0, 0, g4⟩
  · exact h3.env k' v hk'

theorem AWp.adopt {c : Code} {Q : Post} {k : Nat} (t s : Nat) (f : Nat → IV) (hk : get env k = some (.i (.c (.slice none 0 0)))) (h : AWp C c Q ((k, .osl H.length none) :: env) (H ++ [.arr false t s 0 f])) : AWp C c Q env H :=
  fun a w hst => h a w (hst.adopt hk t s f)
theorem AOps.adopt {all rest : List Oper} {Q : Post} {k : Nat} (t s : Nat) (f : Nat → IV) (hk : get env k = some (.i (.c (.slice none 0 0)))) (h : AOps C all rest Q ((k, .osl H.length none) :: env) (H ++ [.arr false t s 0 f])) : AOps C all rest Q env H :=
  fun a w hst => h a w (hst.adopt hk t s f)

/-! ### fewer objects -/
inductive HTr : List AObj → List AObj → Prop
  | nil {l : List AObj} : HTr l []
  | cons {o o' : AObj} {l l' : List AObj} (h : objEq o o') (hl : HTr l l') : HTr (o :: l) (o' :: l')
  | dead {o : AObj} {l l' : List AObj} (h : fixedObj o = false) (hl : HTr l l') : HTr (o :: l) (.dead :: l')

theorem HTr.heq {l l' : List AObj} (h : HTr l l') : ∃ E, HEq' l (l' ++ E) := by
  induction h with
  | nil => exact ⟨_, HEq'.refl _⟩
  | cons h _ ih => obtain ⟨E, hE⟩ := ih; exact ⟨E, .cons h hE⟩
  | dead h _ ih => obtain ⟨E, hE⟩ := ih; exact ⟨E, .dead h hE⟩

theorem HTr.refl : ∀ l : List AObj, HTr l l
  | [] => .nil
  | o :: l => .cons (objEq_refl o) (HTr.refl l)

def refsEnv (n : Nat) : Env → Bool
  | [] => true
  | (_, v) :: r => match refs (below n) v with | true => refsEnv n r | false => false

theorem refsEnv_get {n : Nat} : ∀ {env : Env} {k : Nat} {v : AV}, refsEnv n env = true → get env k = some v → refs (below n) v = true
  | [], _, _, _, h => by simp [get] at h
  | (k', u) :: r, k, v, hr, h => by
    rw [get_cons] at h
    simp only [refsEnv] at hr
    split at hr
    · rename_i hu
      split at h
      · cases h; exact hu
      · exact refsEnv_get hr h
    · cases hr

def refsBox (n : Nat) : List AObj → Bool
  | [] => true
  | .box _ cells :: r => match refsAll (below n) cells with | true => refsBox n r | false => false
  | _ :: r => refsBox n r

theorem refsBox_get {n : Nat} : ∀ {H : List AObj} {i : Nat} {t : TypeId} {cells : List AV}, refsBox n H = true → H[i]? = some (.box t cells) → refsAll (below n) cells = true
  | [], i, t, cells, _, h => by simp at h
  | o :: r, 0, t, cells, hr, h => by
    simp at h; subst h
    simp only [refsBox] at hr
    split at hr
    · assumption
    · cases hr
  | o :: r, i + 1, t, cells, hr, h => by
    have h' : r[i]? = some (.box t cells) := by simpa using h
    refine refsBox_get ?_ h'
    cases o with
    | box t' cells' =>
      simp only [refsBox] at hr
      split at hr
      · exact hr
      · cases hr
    | _ => exact hr

theorem orel_len {n m id : Nat} {o : AObj} (hb : ∀ t cells, o = .box t cells → refsAll (below m) cells = true) (h : orel P I w X n id o) : orel P I w X m id o := by
  cases o with
  | box t cells =>
    obtain ⟨b, cs, h1, h2, h3, h4, _⟩ := h
    exact ⟨b, cs, h1, h2, h3, h4, hb t cells rfl⟩
  | dead => trivial
  | arr fx t s n f => exact h
  | arr2 fx t tr sr n g hole => exact h
  | map k et card dom val => exact h

theorem Rel.trunc {E : List AObj} (h : Rel C env (H ++ E) I X tmps w) (he : refsEnv H.length env = true) (hb : refsBox H.length H = true) (hfx : ∀ k, C.fx k = true → k < H.length) : Rel C env H I X tmps w := by
  have hget : ∀ id, id < H.length → (H ++ E)[id]? = H[id]? := fun id hid => List.getElem?_append_left hid
  have hl : ∀ id row, live H id row → live (H ++ E) id row := by
    intro id row hl
    have hlt := live_lt hl
    unfold live at hl ⊢
    rw [hget id hlt]; exact hl
  refine ⟨h.size, fun k v hk => ?_, ⟨fun id o ho => ?_, fun id row id' row' b h1 h2 => h.hok.inj id row id' row' b (hl _ _ h1) (hl _ _ h2), fun id row b h1 => h.hok.off id row b (hl _ _ h1)⟩, h.sub, h.sup, h.ilt, fun id row b h1 => h.own id row b (hl _ _ h1), h.keep, fun k hk => ?_⟩
  · obtain ⟨a, _, c⟩ := h.env k v hk
    exact ⟨a, refsEnv_get he hk, c⟩
  · have hlt := (List.getElem?_eq_some_iff.1 ho).1
    refine orel_len (fun t cells e => ?_) (h.hok.obj id o (by rw [hget id hlt]; exact ho))
    subst e
    exact refsBox_get hb ho
  · obtain ⟨⟨o, h1, h2⟩, h3⟩ := h.hfx k hk
    rw [hget k (hfx k hk)] at h1
    exact ⟨⟨o, h1, h2⟩, h3⟩

/-- **less is known**: fewer slots, fewer objects -/
structure WK (C : Ctx) (env : Env) (H : List AObj) (env' : Env) (H' : List AObj) : Prop where
  sub : Sub env env'
  tr : HTr H H'
  re : refsEnv H'.length env' = true
  rb : refsBox H'.length H' = true
  fx : ∀ k, C.fx k = true → k < H'.length

theorem St.wk {a : Act} (h : St C env H a w) (hw : WK C env H env' H') : St C env' H' a w := by
  obtain ⟨E, hE⟩ := hw.tr.heq
  obtain ⟨hd, I, X, hr⟩ := h.weaken hw.sub hE
  exact ⟨hd, I, X, hr.trunc hw.re hw.rb hw.fx⟩

theorem AWp.wk {c : Code} {Q : Post} (hw : WK C env H env' H') (h : AWp C c Q env' H') : AWp C c Q env H := fun a w hst => h a w (hst.wk hw)
theorem AOps.wk {all rest : List Oper} {Q : Post} (hw : WK C env H env' H') (h : AOps C all rest Q env' H') : AOps C all rest Q env H := fun a w hst => h a w (hst.wk hw)

/-- **A loop**, its state told by `s`. -/
theorem AWp.loopS {σ : Type} {c : Code} {Q : Post} (μ : σ → Nat) (S : σ → Env) (HS : σ → List AObj) (J : σ → Prop) (s0 : σ) (h0 : WK C env H (S s0) (HS s0)) (j0 : J s0)
    (hstep : ∀ s, J s → AWp C c (Post.then (fun env' H' => ∃ s', (μ s' < μ s ∧ J s') ∧ WK C env' H' (S s') (HS s')) Q) (S s) (HS s)) : AWp C (.loop c) Q env H := by
  refine AWp.wk h0 (AWp.loop (fun n env H => ∃ s, μ s = n ∧ J s ∧ ∀ a w, St C env H a w → St C (S s) (HS s) a w) (n := μ s0) ⟨s0, rfl, j0, fun _ _ h => h⟩ ?_)
  rintro n env H ⟨s, rfl, hj, himp⟩ a w hst
  refine (wp_mono (hstep s hj a w (himp a w hst)) ?_)
  rintro e a w ⟨env', H', hq, hst'⟩
  refine ⟨env', H', ?_, hst'⟩
  cases e with
  | normal =>
    obtain ⟨s', ⟨hm, hj'⟩, hwk⟩ := hq
    exact ⟨μ s', hm, s', rfl, hj', fun a w h => h.wk hwk⟩
  | exit id => exact hq
  | goto l => exact hq
  | ret => exact hq
  | panic c => exact hq
  | outgrown => exact hq

end Go.AM

namespace Go.AM
open Go.RowKit

variable {α : Type} [Inhabited α] {enc : α → IV}

theorem appF_enc (l m : List α) (j : Nat) : appF l.length (fun j => enc (l.getD j default)) (fun j => enc (m.getD j default)) j = enc ((l ++ m).getD j default) := by
  unfold appF
  by_cases h : j < l.length
  · simp [h, List.getElem?_append_left]
  · simp [h, List.getElem?_append_right (Nat.le_of_not_lt h)]

theorem appF_one (l : List α) (x : α) {j : Nat} (hj : j < (l ++ [x]).length) : appF l.length (fun j => enc (l.getD j default)) (listF [enc x]) j = enc ((l ++ [x]).getD j default) := by
  unfold appF
  by_cases h : j < l.length
  · simp [h, List.getElem?_append_left]
  · have : j = l.length := by simp at hj; omega
    subst this
    simp [listF]

theorem updF_enc (l : List α) (i : Nat) (x : α) (hi : i < l.length) (j : Nat) : updF (fun j => enc (l.getD j default)) i (enc x) j = enc ((l.set i x).getD j default) := by
  unfold updF
  by_cases h : j = i
  · subst h; simp [hi]
  · simp [h, List.getElem?_set_ne (Ne.symm h)]

/-- an owned list -/
def olist (t s : Nat) (enc : α → IV) (l : List α) : AObj := .arr false t s l.length (fun j => enc (l.getD j default))

theorem objEq_list {t s : Nat} {fx : Bool} {n : Nat} {f : Nat → IV} {l : List α} (hn : n = l.length) (hf : ∀ j, j < n → f j = enc (l.getD j default)) : objEq (.arr fx t s n f) (.arr fx t s l.length (fun j => enc (l.getD j default))) :=
  ⟨rfl, rfl, rfl, hn, hf⟩

theorem objEq_app1 {t s : Nat} {fx : Bool} {l : List α} {x : α} : objEq (.arr fx t s (l.length + 1) (appF l.length (fun j => enc (l.getD j default)) (listF [enc x]))) (.arr fx t s (l ++ [x]).length (fun j => enc ((l ++ [x]).getD j default))) :=
  ⟨rfl, rfl, rfl, by simp, fun j hj => appF_one l x (by simpa using hj)⟩

theorem thenNil {K : Env → List AObj → Prop} {Q : Post} {env : Env} {H : List AObj} (h : K env H) : Post.then K Q .normal env H := h
theorem blockNil {id : Nat} {Q : Post} {env : Env} {H : List AObj} (h : Q .normal env H) : Post.inBlock id Q .normal env H := h
theorem thenExit {id : Nat} {K : Env → List AObj → Prop} {Q : Post} {env : Env} {H : List AObj} (h : Q (.exit id) env H) : Post.then K Q (.exit id) env H := h
theorem blockSame {id : Nat} {Q : Post} {env : Env} {H : List AObj} (h : Q .normal env H) : Post.inBlock id Q (.exit id) env H := by
  simp only [Post.inBlock, Nat.beq_refl]; exact h
theorem blockOther {id id' : Nat} {Q : Post} {env : Env} {H : List AObj} (hne : Nat.beq id' id = false) (h : Q (.exit id') env H) : Post.inBlock id Q (.exit id') env H := by
  simp only [Post.inBlock, hne]; exact h
theorem thenRet {K : Env → List AObj → Prop} {Q : Post} {env : Env} {H : List AObj} (h : Q .ret env H) : Post.then K Q .ret env H := h
theorem blockRet {id : Nat} {Q : Post} {env : Env} {H : List AObj} (h : Q .ret env H) : Post.inBlock id Q .ret env H := h

end Go.AM

namespace Go.AM
open Go.RowKit

variable {C : Ctx} {env env' : Env} {H H' : List AObj} {I : Nat → Prop} {X X' : Hd} {tmps : Array Value} {w w' : World} {P : Program} {T : TT}

/-! ### one operation, looked at through a small environment -/
def dcons (d : Option Tmp) (v : AV) (env : Env) : Env := match d with
  | some k => (k, v) :: env
  | none => env

def OpStep (C : Ctx) (all : List Oper) (o : Oper) (Ei : Env) (H : List AObj) (v : AV) (H' : List AObj) : Prop :=
  ∀ (env : Env), Sub env Ei → ∀ (K : Act → World → Prop) (Q : Exit → Act → World → Prop), (∀ a' w', St C (dcons o.dst v env) H' a' w' → K a' w') → ∀ a w, St C env H a w →
    if Region.wanted o (yielded all.toArray a.tmps) then o.wp C.P a w K Q ∨ (o.asks C.P a w ∧ LetsOut Q) else K (a.put o.dst undef) w

theorem dput_dcons {N : Nat} {d : Option Tmp} {v : AV} {Ei Ei' : Env} (h : dput N d v Ei = some Ei') (env : Env) : Ei' = dcons d v Ei ∧ dput N d v env = some (dcons d v env) := by
  cases d with
  | none => simp only [dput, Option.some.injEq] at h ⊢; exact ⟨h.symm, rfl⟩
  | some k =>
    simp only [dput] at h ⊢
    split at h
    · rename_i hk; cases h; simp [hk, dcons]
    · cases h

def isApp : Op → Bool
  | .call ⟨.builtin .append, _, _⟩ => true
  | _ => false

def reEnv (env : Env) : Option (AV × Env × List AObj × List Bool) → Option (AV × Env × List AObj × List Bool)
  | some (u, _, H', obs) => some (u, env, H', obs)
  | none => none

theorem hStore_re {env1 : Env} {t : TypeId} {a v : AV} : hStore T env H t a v = reEnv env (hStore T env1 H t a v) := by
  unfold hStore
  repeat' split
  all_goals first | rfl | (simp_all [reEnv]; done)

theorem hStore_self {env1 : Env} {t : TypeId} {a v u : AV} {obs : List Bool} (h : hStore T env1 H t a v = some (u, env', H', obs)) : env' = env1 := by
  unfold hStore at h
  repeat' split at h
  all_goals first | (cases h; done) | (cases h; rfl)

theorem hop_re {env1 : Env} {F : Operand → Option AV} {op : Op} (hn : isApp op = false) : hop T env H F op = reEnv env (hop T env1 H F op) := by
  cases op with
  | store t a x =>
    simp only [hop]
    split
    · exact hStore_re
    · rfl
  | call c =>
    obtain ⟨callee, args, ts⟩ := c
    cases callee with
    | builtin b => cases b <;> first | (simp [isApp] at hn; done) | rfl
    | value f => rfl
    | invoke r m => rfl
  | makeMap t r =>
    cases r with
    | some r => rfl
    | none =>
      simp only [hop]
      repeat' split
      all_goals first | rfl | (simp_all [reEnv]; done)
  | _ =>
    first
    | rfl
    | (simp only [hop]
       repeat' split
       all_goals first | rfl | (simp_all [reEnv]; done))

theorem hop_self {env1 : Env} {F : Operand → Option AV} {op : Op} {v : AV} {obs : List Bool} (hn : isApp op = false) (h : hop T env1 H F op = some (v, env', H', obs)) : env' = env1 := by
  cases op with
  | store t a x =>
    simp only [hop] at h
    split at h
    · exact hStore_self h
    · cases h
  | call c =>
    obtain ⟨callee, args, ts⟩ := c
    cases callee with
    | builtin b => cases b <;> first | (simp [isApp] at hn; done) | (simp [hop] at h; done)
    | value f => simp [hop] at h
    | invoke r m => simp [hop] at h
  | makeMap t r =>
    cases r with
    | some r => simp [hop] at h
    | none =>
      simp only [hop] at h
      repeat' split at h
      all_goals first | (cases h; done) | (cases h; rfl)
  | _ =>
    simp only [hop] at h
    first
    | (cases h; done)
    | (repeat' split at h
       all_goals first | (cases h; done) | (cases h; rfl))

theorem hop_env {env1 : Env} {F : Operand → Option AV} {op : Op} {v : AV} {obs : List Bool} (hn : isApp op = false) (h : hop T env1 H F op = some (v, env', H', obs)) : env' = env1 ∧ ∀ env, hop T env H F op = some (v, env, H', obs) :=
  ⟨hop_self hn h, fun env => by rw [hop_re (env1 := env1) hn, h]; rfl⟩

theorem OpStep.of_astep (hT : TTok C.P T) {all : List Oper} {o : Oper} {nw : Bool} {Ei : Env} {v : AV} {obs : List Bool} (hna : isApp o.op = false)
    (hs : ∃ Ei', astep nw T C.N all Ei H o = some (Ei', H', obs) ∧ Ei' = dcons o.dst v Ei) (ho : allTrue obs) : OpStep C all o Ei H v H' := by
  intro env hsub K Q hK a w hst
  obtain ⟨Ei', hs, hv⟩ := hs
  obtain ⟨hd, I, X, h0⟩ := hst
  have h := h0.subEnv hsub
  unfold astep at hs
  split at hs
  · cases hs
  rename_i g hg
  obtain ⟨hw1, hw2⟩ := guardOf_sound h (all := all) (o := o)
  have ways : (Region.wanted o (yielded all.toArray a.tmps) = true ∧ ∀ b, g = some b → b = true) ∨ (Region.wanted o (yielded all.toArray a.tmps) = false ∧ ∃ b, g = some b ∧ b = false) := by
    cases g with
    | none => exact .inl ⟨hw1 hg, fun b hb => by cases hb⟩
    | some b =>
      have := hw2 b hg
      cases b with
      | true => exact .inl ⟨this, fun b hb => by cases hb; rfl⟩
      | false => exact .inr ⟨this, false, rfl, rfl⟩
  have fin : ∀ {u : AV} {x : Value} {H1 : List AObj} {X1 : Hd} {w1 : World}, Rel C env H1 I X1 a.tmps w1 → arel I w1 X1 u x → refs (below H1.length) u = true → dput C.N o.dst u Ei = some Ei' → H1 = H' → K (a.put o.dst x) w1 := by
    intro u x H1 X1 w1 h1 h2 h3 h4 h5
    subst h5
    obtain ⟨e1, e2⟩ := dput_dcons h4 env
    refine hK _ _ ⟨by rw [(put_tmps a o.dst x).2]; exact hd, I, X1, ?_⟩
    rw [(put_tmps a o.dst x).1]
    have := dput_rel h1 h2 h3 e2
    rw [e1] at hv
    cases hod : o.dst with
    | none => rw [hod] at this; exact this
    | some d =>
      rw [hod] at this hv
      simp only [dcons, List.cons.injEq, Prod.mk.injEq, true_and, and_true] at hv
      rw [hv] at this
      exact this
  split at hs
  · rename_i c x y hop
    split at hs
    rotate_left
    · cases hs
    rename_i t bx byy hc hx hy
    split at hs
    rotate_left
    · cases hs
    rename_i env1 hput
    cases hs
    rw [allTrue_append, allTrue_append] at ho
    rcases ways with ⟨hw, hgt⟩ | ⟨hw, b, rfl, rfl⟩
    · rw [if_pos hw]
      refine .inl ?_
      obtain ⟨b1, p1, _, p3, p4⟩ := opd_sound h hc
      obtain ⟨b2, q1, _, q3, q4⟩ := opd_sound h hx
      obtain ⟨b3, r1, _, r3, r4⟩ := opd_sound h hy
      have hb1 : b1 = true := by
        cases g with
        | none => exact p3 _ rfl ho.1
        | some b => exact p4 b _ rfl ho.1 (hgt b rfl)
      have hct : a.eval c = .bool t := (irel_c.1 (p1 hb1)).1
      unfold Oper.wp
      have hrun : (execOp a.eval o).run C.P w = .ok (.value (if t then a.eval x else a.eval y)) w := by
        simp [execOp, hop, hct, asBool]
      rw [hrun]
      have hval : (if t then a.eval x else a.eval y) = .bool (cond t bx byy) := by
        cases t with
        | true =>
          have hb2 : b2 = true := by
            cases g with
            | none => exact q4 true _ rfl ho.2.1 rfl
            | some b => exact q4 (b && true) _ rfl ho.2.1 (by rw [hgt b rfl]; rfl)
          simpa using (irel_c.1 (q1 hb2)).1
        | false =>
          have hb3 : b3 = true := by
            cases g with
            | none => exact r4 true _ rfl ho.2.2 rfl
            | some b => exact r4 (b && true) _ rfl ho.2.2 (by rw [hgt b rfl]; rfl)
          simpa using (irel_c.1 (r1 hb3)).1
      rw [hval]
      exact fin (u := wrapG g (.i (.c (.bool (cond t bx byy))))) h0 (rel_wrap hgt (irel_c.2 ⟨rfl, rfl⟩)) (refs_wrap rfl) hput rfl
    · rw [if_neg (by rw [hw]; simp)]
      exact fin h0 (rel_undef false rfl _) rfl hput rfl
  · split at hs
    · split at hs
      rotate_left
      · cases hs
      rename_i v obs' hq
      split at hs
      rotate_left
      · cases hs
      rename_i env1 hput
      cases hs
      rw [allTrue_append] at ho
      rcases ways with ⟨hw, hgt⟩ | ⟨hw, b, rfl, rfl⟩
      · rw [if_pos hw]
        refine .inl ?_
        obtain ⟨z, h1, h2, h3⟩ := qop_sound (ρ := a.eval) hT h (fok_of_obs h hgt ho.1) hq (by
          cases g with
          | none => exact ho.2
          | some b => exact allTrue_guard (hgt b rfl) ho.2)
        unfold Oper.wp
        rw [h3 w (Same.refl w)]
        exact fin h0 (rel_wrap hgt h1) (refs_wrap h2) hput rfl
      · rw [if_neg (by rw [hw]; simp)]
        have hr : refs (below H.length) (wrapG (some false) v) = true := by
          refine refs_wrap (qop_refs h.hok (fun x hx u hu => ?_) hq)
          obtain ⟨_, _, h2, _⟩ := opd_sound h hu
          exact h2
        exact fin h0 (rel_undef false rfl _) hr hput rfl
    · split at hs
      · split at hs
        rotate_left
        · cases hs
        rename_i v env1 H1 obs' hh
        split at hs
        rotate_left
        · cases hs
        rename_i env2 hput
        cases hs
        rw [allTrue_append] at ho
        rcases ways with ⟨hw, hgt⟩ | ⟨hw, b, hb, _⟩
        · rw [if_pos hw]
          refine .inl ?_
          obtain ⟨e1, e2⟩ := hop_env hna hh
          subst e1
          obtain ⟨z, w', X', hz, h1, h2, h3⟩ := hop_sound (ρ := a.eval) hT h0 (fok_of_obs h hgt ho.1) (e2 env) ho.2
          unfold Oper.wp
          rcases hz with hz | ⟨hz, rfl⟩ <;> rw [hz] <;> exact fin h3 h1 h2 hput rfl
        · cases hb
      · cases hs

theorem OpStep.of_call {all : List Oper} {o : Oper} {fo : Operand} {args : Array Operand} {ts : Array TypeId} {f : FuncId} {caps ivs : List IV} {o1 o2 : List Bool} {r : AV} {H2 : List AObj} {Ei : Env}
    (hop : o.op = .call ⟨.value fo, args, ts⟩) (hg : o.guard = none) (hfo : calleeOf T H Ei fo = some (f, caps, o1)) (hcn : caps.all notAgg = true) (hargs : lowArgs T H Ei args.toList = some (ivs, o2)) (ho : allTrue (o1 ++ o2))
    (hc : AFn C.P f (ivs ++ caps) r H2) (hpl : (plA r ∧ plH H2) ∨ (allImmOps Ei (fo :: args.toList) = true)) (hN : match o.dst with | some d => Nat.blt d C.N = true | none => True) : OpStep C all o Ei H (shA H.length r) (H ++ shH H.length H2) := by
  intro env hsub K Q hK a w hst
  obtain ⟨hd, I, X, hrel⟩ := hst
  rw [allTrue_append] at ho
  have hwant : Region.wanted o (yielded all.toArray a.tmps) = true := by unfold Region.wanted; rw [hg]
  rw [if_pos hwant]
  refine .inl (call_core hrel hsub hop hfo ho.1 hcn hargs ho.2 hc (hpl.imp (fun h r' H' ⟨h1, h2⟩ => by rw [h1, h2]; exact h) id) ?_)
  rintro _ _ v w' J X'' ⟨rfl, rfl⟩ e3 e4 e5
  refine hK _ _ ⟨by rw [(put_tmps a o.dst v).2]; exact hd, J, X'', ?_⟩
  rw [(put_tmps a o.dst v).1]
  refine dput_rel e3 e4 e5 ?_
  cases hod : o.dst with
  | none => rfl
  | some d => rw [hod] at hN; simp only at hN; simp [dput, hN, dcons]

end Go.AM

namespace Go.AM
open Go.RowKit

variable {C : Ctx} {env env' : Env} {H H' : List AObj} {I : Nat → Prop} {X X' : Hd} {tmps : Array Value} {w w' : World} {P : Program} {T : TT}

/-! ### a region in any order -/
def ancB (anc : List (List Nat)) (i j : Nat) : Bool := (anc.getD i []).contains j
def dstAt (all : List Oper) (i : Nat) : Option Tmp := match all[i]? with | some o => o.dst | none => none
/-- the operation of the region that lays a slot -/
def layer (all : List Oper) (s : Nat) : Option Nat := (List.range all.length).find? fun j => dstAt all j == some s

def edgesOk (anc : List (List Nat)) (i : Nat) : List Edge → Bool
  | [] => true
  | e :: r => (!Region.binds .any e || (Nat.blt e.on i && ancB anc i e.on && (anc.getD e.on []).all (ancB anc i))) && edgesOk anc i r

def planOk (all : List Oper) (anc : List (List Nat)) (chain : List Nat) : Bool :=
  (List.range all.length).all fun i => match all[i]? with
    | some o => edgesOk anc i o.after.toList &&
        ((anc.getD i []).all fun j => Nat.blt j i && o.after.toList.any fun e => Region.binds .any e && (e.on == j || ancB anc e.on j)) &&
        (match o.dst with | some d => layer all d == some i | none => true)
    | none => false

def EiOf (all : List Oper) (anc : List (List Nat)) (vs : List AV) (E0 : Env) (i : Nat) : Env :=
  ((List.range all.length).filterMap fun j => match dstAt all j with | some d => (match ancB anc i j with | true => some (d, vs.getD j .any) | false => none) | none => none) ++
  E0.filter fun p => match layer all p.1 with | some j => !ancB anc i j && (ancB anc j i || j == i) | none => true

def EFin (all : List Oper) (vs : List AV) (E0 : Env) : Env :=
  ((List.range all.length).filterMap fun j => match dstAt all j with | some d => some (d, vs.getD j .any) | none => none) ++ E0

def loOf (anc : List (List Nat)) (chain : List Nat) (i : Nat) : Nat := chain.countP (ancB anc i)
def hiOf (anc : List (List Nat)) (chain : List Nat) (i : Nat) : Nat := chain.countP fun j => !ancB anc j i && !(j == i)

def allK (p : Nat → Prop) : Nat → Nat → Prop
  | _, 0 => True
  | k, m + 1 => p k ∧ allK p (k + 1) m

theorem allK_get {p : Nat → Prop} : ∀ {m k : Nat}, allK p k m → ∀ j, k ≤ j → j < k + m → p j
  | 0, k, _, j, h1, h2 => by omega
  | m + 1, k, h, j, h1, h2 => by
    by_cases hj : j = k
    · subst hj; exact h.1
    · exact allK_get h.2 j (by omega) (by omega)

def isCh (chain : List Nat) (i : Nat) : Nat := match chain.contains i with | true => 1 | false => 0

def Steps (C : Ctx) (all : List Oper) (anc : List (List Nat)) (chain : List Nat) (vs : List AV) (Hs : List (List AObj)) (E0 : Env) : Nat → List Oper → Prop
  | _, [] => True
  | i, o :: r => allK (fun k => OpStep C all o (EiOf all anc vs E0 i) (Hs.getD k []) (vs.getD i .any) (Hs.getD (k + isCh chain i) [])) (loOf anc chain i) (hiOf anc chain i + 1 - loOf anc chain i) ∧
      Steps C all anc chain vs Hs E0 (i + 1) r

theorem Steps.get {all : List Oper} {anc : List (List Nat)} {chain : List Nat} {vs : List AV} {Hs : List (List AObj)} {E0 : Env} : ∀ {l : List Oper} {i : Nat}, Steps C all anc chain vs Hs E0 i l → ∀ j o, l[j]? = some o → ∀ k, loOf anc chain (i + j) ≤ k → k ≤ hiOf anc chain (i + j) →
    OpStep C all o (EiOf all anc vs E0 (i + j)) (Hs.getD k []) (vs.getD (i + j) .any) (Hs.getD (k + isCh chain (i + j)) [])
  | [], i, _, j, o, h, _, _, _ => by simp at h
  | o' :: r, i, h, 0, o, hj, k, h1, h2 => by
    simp at hj; subst hj
    exact allK_get h.1 k h1 (by simp only [Nat.add_zero] at h2; omega)
  | o' :: r, i, h, j + 1, o, hj, k, h1, h2 => by
    have := Steps.get h.2 j o (by simpa using hj) k (by rw [show i + 1 + j = i + (j + 1) by omega]; exact h1) (by rw [show i + 1 + j = i + (j + 1) by omega]; exact h2)
    rw [show i + 1 + j = i + (j + 1) by omega] at this
    exact this

theorem get_append {l m : Env} {s : Nat} : get (l ++ m) s = match get l s with | some u => some u | none => get m s := by
  induction l with
  | nil => rfl
  | cons p l ih =>
    obtain ⟨k, v⟩ := p
    rw [List.cons_append, get_cons, get_cons]
    split
    · rfl
    · exact ih

theorem get_filter {p : Nat × AV → Bool} {q : Nat → Bool} (hp : ∀ x, p x = q x.1) : ∀ {l : Env} {s : Nat} {u : AV}, get (l.filter p) s = some u → q s = true ∧ get l s = some u
  | [], s, u, h => by simp [get] at h
  | (k, v) :: l, s, u, h => by
    rw [get_cons]
    by_cases hk : p (k, v) = true
    · rw [List.filter_cons_of_pos hk, get_cons] at h
      split at h
      · rename_i e; subst e; cases h
        rw [hp] at hk
        exact ⟨hk, by simp⟩
      · rename_i e
        rw [if_neg e]
        exact get_filter hp h
    · rw [List.filter_cons_of_neg hk] at h
      obtain ⟨h1, h2⟩ := get_filter hp h
      refine ⟨h1, ?_⟩
      split
      · rename_i e; subst e; rw [hp] at hk; exact (hk h1).elim
      · exact h2

theorem get_mem : ∀ {l : Env} {s : Nat} {u : AV}, get l s = some u → (s, u) ∈ l
  | [], s, u, h => by simp [get] at h
  | (k, v) :: l, s, u, h => by
    rw [get_cons] at h
    split at h
    · rename_i e; subst e; cases h; exact List.mem_cons_self
    · exact List.mem_cons_of_mem _ (get_mem h)

theorem get_none : ∀ {l : Env} {s : Nat}, get l s = none → ∀ u, (s, u) ∉ l
  | [], s, _, u => by simp
  | (k, v) :: l, s, h, u => by
    rw [get_cons] at h
    split at h
    · cases h
    · rename_i e
      intro hm
      rcases List.mem_cons.1 hm with h1 | h1
      · cases h1; exact e rfl
      · exact get_none h u h1

/-- what a slot holds when these operations have come up -/
def specGet (all : List Oper) (vs : List AV) (E0 : Env) (L : Nat → Bool) (s : Nat) : Option AV :=
  match layer all s with
  | some j => match L j with | true => some (vs.getD j .any) | false => get E0 s
  | none => get E0 s

theorem layer_some {all : List Oper} {s j : Nat} (h : layer all s = some j) : j < all.length ∧ dstAt all j = some s := by
  unfold layer at h
  have h1 := List.find?_some h
  have h2 := List.mem_of_find?_eq_some h
  exact ⟨by simpa using h2, by simpa using h1⟩

section
variable {all : List Oper} {anc : List (List Nat)} {chain : List Nat} {vs : List AV} {Hs : List (List AObj)} {E0 : Env}

theorem plan_get (hok : planOk all anc chain = true) {i : Nat} {o : Oper} (hi : all[i]? = some o) :
    (∀ e ∈ o.after.toList, Region.binds .any e = true → e.on < i ∧ ancB anc i e.on = true ∧ ∀ j, ancB anc e.on j = true → ancB anc i j = true) ∧
    (∀ j, ancB anc i j = true → j < i ∧ ∃ e ∈ o.after.toList, Region.binds .any e = true ∧ (e.on = j ∨ ancB anc e.on j = true)) ∧
    (∀ d, o.dst = some d → layer all d = some i) := by
  have hlt : i < all.length := (List.getElem?_eq_some_iff.1 hi).1
  have h := List.all_eq_true.1 hok i (List.mem_range.2 hlt)
  rw [hi] at h
  simp only [Bool.and_eq_true] at h
  obtain ⟨⟨h1, h2⟩, h3⟩ := h
  refine ⟨?_, ?_, ?_⟩
  · have key : ∀ l : List Edge, edgesOk anc i l = true → ∀ e ∈ l, Region.binds .any e = true → e.on < i ∧ ancB anc i e.on = true ∧ ∀ j, ancB anc e.on j = true → ancB anc i j = true := by
      intro l
      induction l with
      | nil => intro _ e he; simp at he
      | cons a l ih =>
        intro hl e he hb
        simp only [edgesOk, Bool.and_eq_true, Bool.or_eq_true, Bool.not_eq_true'] at hl
        rcases List.mem_cons.1 he with rfl | he
        · rcases hl.1 with h | ⟨⟨g1, g2⟩, g3⟩
          · rw [hb] at h; cases h
          · refine ⟨by simpa [Nat.blt_eq] using g1, g2, fun j hj => List.all_eq_true.1 g3 j ?_⟩
            simpa [ancB] using hj
        · exact ih hl.2 e he hb
    exact key _ h1
  · intro j hj
    have := List.all_eq_true.1 h2 j (by simpa [ancB] using hj)
    simp only [Bool.and_eq_true, List.any_eq_true, Bool.or_eq_true, beq_iff_eq] at this
    obtain ⟨g1, e, g2, g3, g4⟩ := this
    exact ⟨by simpa [Nat.blt_eq] using g1, e, g2, g3, g4⟩
  · intro d hd
    rw [hd] at h3
    simpa using h3

/-- the operations that have come up are closed under what they wait for -/
def Closed (all : List Oper) (anc : List (List Nat)) (L : Nat → Bool) : Prop := ∀ i, i < all.length → L i = true → ∀ j, ancB anc i j = true → L j = true

theorem Ei_spec (hok : planOk all anc chain = true) {L : Nat → Bool} {i : Nat} (hcl : Closed all anc L) (hi : L i = false) (hanc : ∀ j, ancB anc i j = true → L j = true) {s : Nat} {u : AV} (h : get (EiOf all anc vs E0 i) s = some u) : specGet all vs E0 L s = some u := by
  unfold EiOf at h
  rw [get_append] at h
  split at h
  · rename_i u' hu
    cases h
    have hm := get_mem hu
    simp only [List.mem_filterMap, List.mem_range] at hm
    obtain ⟨j, hj, h1⟩ := hm
    split at h1
    · rename_i d hd
      split at h1
      · rename_i ha
        simp only [Option.some.injEq, Prod.mk.injEq] at h1
        obtain ⟨rfl, rfl⟩ := h1
        have hl : layer all d = some j := by
          unfold dstAt at hd
          split at hd
          · rename_i o ho; exact (plan_get hok ho).2.2 d hd
          · cases hd
        unfold specGet
        rw [hl]
        simp only [hanc j ha]
      · cases h1
    · cases h1
  · rename_i hn
    obtain ⟨h1, h2⟩ := get_filter (q := fun s => match layer all s with | some j => !ancB anc i j && (ancB anc j i || j == i) | none => true) (fun _ => rfl) h
    unfold specGet
    split at h1
    · rename_i j hj
      simp only [Bool.and_eq_true, Bool.not_eq_true', Bool.or_eq_true, beq_iff_eq] at h1
      have hlj : L j = false := by
        cases hl : L j with
        | false => rfl
        | true =>
          rcases h1.2 with h3 | h3
          · have := hcl j (layer_some hj).1 hl i h3
            rw [hi] at this; cases this
          · rw [h3, hi] at hl; cases hl
      simp only [hlj]; exact h2
    · rename_i hj
      exact h2

theorem EFin_spec (hok : planOk all anc chain = true) {L : Nat → Bool} (hall : ∀ i, i < all.length → L i = true) {s : Nat} {u : AV} (h : get (EFin all vs E0) s = some u) : specGet all vs E0 L s = some u := by
  unfold EFin at h
  rw [get_append] at h
  split at h
  · rename_i u' hu
    cases h
    have hm := get_mem hu
    simp only [List.mem_filterMap, List.mem_range] at hm
    obtain ⟨j, hj, h1⟩ := hm
    split at h1
    · rename_i d hd
      simp only [Option.some.injEq, Prod.mk.injEq] at h1
      obtain ⟨rfl, rfl⟩ := h1
      have hl : layer all d = some j := by
        unfold dstAt at hd
        split at hd
        · rename_i o ho; exact (plan_get hok ho).2.2 d hd
        · cases hd
      unfold specGet
      rw [hl]
      simp only [hall j hj]
    · cases h1
  · rename_i hn
    unfold specGet
    split
    · rename_i j hj
      obtain ⟨h1, h2⟩ := layer_some hj
      exact (get_none hn (vs.getD j .any) (by
        simp only [List.mem_filterMap, List.mem_range]
        exact ⟨j, h1, by rw [h2]⟩)).elim
    · exact h

theorem spec_step {L : Nat → Bool} {i : Nat} {o : Oper} (hok : planOk all anc chain = true) (hi : all[i]? = some o) (hs : ∀ s u, specGet all vs E0 L s = some u → get env s = some u) :
    ∀ s u, specGet all vs E0 (fun j => L j || j == i) s = some u → get (dcons o.dst (vs.getD i .any) env) s = some u := by
  intro s u h
  have hl := (plan_get hok hi).2.2
  have hd : ∀ j, layer all s = some j → j = i → o.dst = some s := by
    intro j h1 h2
    subst h2
    have := (layer_some h1).2
    unfold dstAt at this
    rw [hi] at this
    exact this
  unfold specGet at h
  cases hls : layer all s with
  | none =>
    rw [hls] at h
    have hne : o.dst ≠ some s := by intro e; have := hl s e; rw [hls] at this; cases this
    have : get env s = some u := hs s u (by unfold specGet; rw [hls]; exact h)
    cases hod : o.dst with
    | none => exact this
    | some d =>
      simp only [dcons]
      rw [get_cons, if_neg]
      · exact this
      · intro e; subst e; exact hne hod
  | some j =>
    rw [hls] at h
    simp only at h
    by_cases hji : j = i
    · have h1 := hd j hls hji
      subst hji
      simp only [beq_self_eq_true, Bool.or_true] at h
      rw [h1]
      simp only [dcons]
      rw [get_cons, if_pos rfl]
      exact h
    · have hne : o.dst ≠ some s := by intro e; have := hl s e; rw [hls] at this; cases this; exact hji rfl
      have hb : (j == i) = false := by simpa using hji
      simp only [hb, Bool.or_false] at h
      have : get env s = some u := hs s u (by unfold specGet; rw [hls]; exact h)
      cases hod : o.dst with
      | none => exact this
      | some d =>
        simp only [dcons]
        rw [get_cons, if_neg]
        · exact this
        · intro e; subst e; exact hne hod

theorem countP_lt_add {L : Nat → Bool} {i : Nat} (hi : L i = false) : ∀ (chain : List Nat), chain.Nodup → chain.countP (fun j => L j || j == i) = chain.countP L + isCh chain i := by
  intro chain
  induction chain with
  | nil => intro _; rfl
  | cons c chain ih =>
    intro hn
    rw [List.nodup_cons] at hn
    have := ih hn.2
    by_cases hc : c = i
    · subst hc
      have h0 : isCh chain c = 0 := by simp [isCh, hn.1]
      have h1 : isCh (c :: chain) c = 1 := by simp [isCh]
      rw [List.countP_cons, List.countP_cons, this, h0, h1]
      simp [hi]
    · have h1 : isCh (c :: chain) i = isCh chain i := by
        simp only [isCh, List.contains_cons]
        have : (i == c) = false := by simpa using Ne.symm hc
        rw [this, Bool.false_or]
      rw [List.countP_cons, List.countP_cons, this, h1]
      have hb : (c == i) = false := by simpa using hc
      simp only [hb, Bool.or_false]
      omega

theorem AWp.regionAny (hm : C.P.follows .mixedOrders = true) {id : Nat} {Q : Post} (anc : List (List Nat)) (chain : List Nat) (vs : List AV) (Hs : List (List AObj)) (hok : planOk all anc chain = true) (hnd : chain.Nodup) (h0 : Hs.getD 0 [] = H)
    (hst : Steps C all anc chain vs Hs env 0 all) (hfin : Q .normal (EFin all vs env) (Hs.getD (chain.countP fun j => Nat.blt j all.length) [])) : AWp C (.region id all.toArray true) Q env H := by
  intro a w hSt
  refine wp_region_any hm ?_
  have key : ∀ (fuel : Nat) (listed : Array Bool) (a : Act) (w : World) (env1 : Env), listed.size = all.length → (listed.toList.countP fun b => !b) = fuel →
      Closed all anc (fun i => listed.getD i false) → (∀ s u, specGet all vs env (fun i => listed.getD i false) s = some u → get env1 s = some u) →
      St C env1 (Hs.getD (chain.countP fun i => listed.getD i false) []) a w → wpAny C.P .any all.toArray (lift C Q) fuel listed a w := by
    intro fuel
    have least : ∀ (listed : Array Bool), listed.size = all.length → Closed all anc (fun i => listed.getD i false) → Region.ready .any all.toArray listed = [] → ∀ i, i < all.length → listed.getD i false = true := by
      intro listed hsz hcl hr i
      induction i using Nat.strongRecOn with
      | _ i ih =>
        intro hi
        cases hb : listed.getD i false with
        | true => rfl
        | false =>
          exfalso
          have hmem : i ∈ Region.ready .any all.toArray listed := by
            rw [mem_ready]
            have hsi : i < listed.size := by omega
            refine ⟨by simpa [hsi] using hb, all[i], by simp [hi], fun e he hbd => ?_⟩
            obtain ⟨g1, _⟩ := (plan_get hok (List.getElem?_eq_getElem hi)).1 e (by simpa using he) hbd
            exact ih e.on g1 (by omega)
          rw [hr] at hmem
          cases hmem
    have fin : ∀ (listed : Array Bool) (a : Act) (w : World) (env1 : Env), listed.size = all.length → (∀ i, i < all.length → listed.getD i false = true) →
        (∀ s u, specGet all vs env (fun i => listed.getD i false) s = some u → get env1 s = some u) → St C env1 (Hs.getD (chain.countP fun i => listed.getD i false) []) a w → lift C Q .normal a w := by
      intro listed a w env1 hsz hall hs hst1
      refine ⟨_, _, hfin, ?_⟩
      have hcount : (chain.countP fun i => listed.getD i false) = chain.countP fun j => Nat.blt j all.length := by
        congr 1
        funext i
        by_cases hi : i < all.length
        · rw [hall i hi]; symm; simpa [Nat.blt_eq] using hi
        · have h1 : listed.getD i false = false := by simp [Array.getElem?_eq_none (show listed.size ≤ i by omega)]
          rw [h1]
          cases hb : Nat.blt i all.length with
          | false => rfl
          | true => rw [Nat.blt_eq] at hb; exact (hi hb).elim
      rw [← hcount]
      refine hst1.weaken (fun s u h => hs s u (EFin_spec hok hall h)) (HEq'.refl _)
    induction fuel with
    | zero =>
      intro listed a w env1 hsz hcnt hcl hs hst1
      have hall : ∀ i, i < all.length → listed.getD i false = true := by
        intro i hi
        have hsi : i < listed.size := by omega
        have := List.countP_eq_zero.1 hcnt listed[i] (by simp)
        simpa [hsi] using this
      refine ⟨?_, fin listed a w env1 hsz hall hs hst1⟩
      cases hr : Region.ready .any all.toArray listed with
      | nil => rfl
      | cons i r =>
        have hmem : i ∈ Region.ready .any all.toArray listed := by rw [hr]; exact List.mem_cons_self
        obtain ⟨g1, o, g2, _⟩ := mem_ready.1 hmem
        have hi : i < all.length := by simpa using (Array.getElem?_eq_some_iff.1 g2).1
        have h2 := hall i hi
        have hsi : i < listed.size := by omega
        simp [hsi] at g1 h2
        rw [g1] at h2; cases h2
    | succ fuel ih =>
      intro listed a w env1 hsz hcnt hcl hs hst1
      refine ⟨fun hr => fin listed a w env1 hsz (least listed hsz hcl hr) hs hst1, fun i hmem => ?_⟩
      obtain ⟨g1, o, g2, g3⟩ := mem_ready.1 hmem
      have hi : i < all.length := by simpa using (Array.getElem?_eq_some_iff.1 g2).1
      have hsi : i < listed.size := by omega
      have ho : all[i]? = some o := by simpa using g2
      have hli : listed.getD i false = false := by simpa [hsi] using g1
      obtain ⟨p1, p2, p3⟩ := plan_get hok ho
      have hanc : ∀ j, ancB anc i j = true → listed.getD j false = true := by
        intro j hj
        obtain ⟨_, e, he, hbd, hor⟩ := p2 j hj
        have hle := g3 e (by simpa using he) hbd
        rcases hor with rfl | hor
        · exact hle
        · exact hcl e.on (by have := (p1 e he hbd).1; omega) hle j hor
      have hlo : loOf anc chain i ≤ chain.countP fun j => listed.getD j false := List.countP_mono_left (fun j _ h => hanc j h)
      have hhi : (chain.countP fun j => listed.getD j false) ≤ hiOf anc chain i := by
        refine List.countP_mono_left (fun j _ h => ?_)
        have hjl : j < all.length := by
          rcases Nat.lt_or_ge j listed.size with h' | h'
          · omega
          · simp [Array.getElem?_eq_none h'] at h
        simp only [Bool.and_eq_true, Bool.not_eq_true']
        refine ⟨?_, ?_⟩
        · cases hb : ancB anc j i with
          | false => rfl
          | true => have h4 : listed.getD i false = true := hcl j hjl h i hb
                    rw [hli] at h4; cases h4
        · cases hb : j == i with
          | false => rfl
          | true => have h5 : j = i := by simpa using hb
                    subst h5
                    have h6 : listed.getD j false = true := h
                    rw [hli] at h6; cases h6
      have hop := Steps.get hst i o ho (chain.countP fun j => listed.getD j false) (by rw [Nat.zero_add]; exact hlo) (by rw [Nat.zero_add]; exact hhi)
      simp only [Nat.zero_add] at hop
      unfold wpOp
      rw [show all.toArray[i]? = some o from g2]
      simp only
      refine hop env1 (fun s u h => hs s u (Ei_spec hok hcl hli hanc h)) _ _ ?_ a w hst1
      intro a' w' hst2
      have hset : ∀ j, (listed.setIfInBounds i true).getD j false = (listed.getD j false || j == i) := by
        intro j
        by_cases hj : j = i
        · subst hj; simp [hsi]
        · have hb : (j == i) = false := by simpa using hj
          rw [hb, Bool.or_false, getD_set_ne false (Ne.symm hj)]
      refine ih (listed.setIfInBounds i true) a' w' (dcons o.dst (vs.getD i .any) env1) (by simpa using hsz) ?_ ?_ ?_ ?_
      · have hl2 : listed.toList[i]? = some false := by simpa [hsi] using g1
        have : ∀ (l : List Bool) (i : Nat), l[i]? = some false → (l.set i true).countP (fun b => !b) + 1 = l.countP fun b => !b := by
          intro l
          induction l with
          | nil => intro i h; simp at h
          | cons b l ihl =>
            intro i h
            cases i with
            | zero => simp at h; subst h; simp
            | succ i =>
              have := ihl i (by simpa using h)
              simp only [List.set_cons_succ, List.countP_cons]
              omega
        have h3 := this _ _ hl2
        rw [Array.toList_setIfInBounds]
        omega
      · intro j hj hlj k hk
        simp only [hset, Bool.or_eq_true] at hlj ⊢
        rcases hlj with h | h
        · exact .inl (hcl j hj h k hk)
        · have : j = i := by simpa using h
          subst this
          exact .inl (hanc k hk)
      · have : (fun j => (listed.setIfInBounds i true).getD j false) = fun j => listed.getD j false || j == i := funext hset
        rw [this]
        exact spec_step hok ho hs
      · have : (fun j => (listed.setIfInBounds i true).getD j false) = fun j => listed.getD j false || j == i := funext hset
        rw [this, countP_lt_add hli chain hnd]
        exact hst2
  obtain ⟨hd, I, X, hrel⟩ := hSt
  have hrep : ∀ i, (Array.replicate all.length false).getD i false = false := by
    intro i
    by_cases hi : i < all.length
    · simp [hi]
    · simp [Array.getElem?_eq_none (show (Array.replicate all.length false).size ≤ i by simp; omega)]
  have hfz : (fun i => (Array.replicate all.length false).getD i false) = fun _ => false := funext hrep
  have := key all.length (Array.replicate all.length false) a { w with drawn := w.drawn + 1 } env (by simp) (by simp [List.countP_replicate]) (fun i _ h => by simp only [hrep] at h; cases h)
    (fun s u h => by
      rw [hfz] at h
      unfold specGet at h
      split at h <;> exact h)
    (by
      rw [hfz]
      have hc0 : (chain.countP fun _ => false) = 0 := by simp
      rw [hc0, h0]
      exact ⟨hd, I, X, hrel.world ⟨rfl, rfl, rfl, Nat.le_refl _, fun _ _ => rfl⟩⟩)
  simpa using this

end
end Go.AM

namespace Go.AM
open Go.RowKit

variable {C : Ctx} {env env' : Env} {H H' : List AObj} {I : Nat → Prop} {X X' : Hd} {tmps : Array Value} {w w' : World} {P : Program} {T : TT}

/-! ### owned objects handed to a callee -/
def posOf : List Nat → Nat → Option Nat
  | [], _ => none
  | a :: s, i => match Nat.beq a i with | true => some 0 | false => match posOf s i with | some k => some (k + 1) | none => none

theorem posOf_some : ∀ {s : List Nat} {i k : Nat}, posOf s i = some k → k < s.length ∧ s.getD k 0 = i
  | [], i, k, h => by cases h
  | a :: s, i, k, h => by
    simp only [posOf] at h
    split at h
    · rename_i hb; cases h; exact ⟨by simp, by simpa using Nat.eq_of_beq_eq_true hb⟩
    · split at h
      · rename_i j hj; cases h
        obtain ⟨h1, h2⟩ := posOf_some hj
        exact ⟨by simpa using h1, by simpa using h2⟩
      · cases h

theorem posOf_none : ∀ {s : List Nat} {i : Nat}, posOf s i = none → ∀ k, k < s.length → s.getD k 0 ≠ i
  | [], i, _, k, hk => by simp at hk
  | a :: s, i, h, k, hk => by
    simp only [posOf] at h
    split at h
    · cases h
    · rename_i hb
      split at h
      · cases h
      · rename_i hn
        cases k with
        | zero => intro e; simp at e; subst e; simp at hb
        | succ k => simpa using posOf_none hn k (by simpa using hk)

theorem posOf_get {s : List Nat} (hn : nodupB s = true) {k : Nat} (hk : k < s.length) : posOf s (s.getD k 0) = some k := by
  cases h : posOf s (s.getD k 0) with
  | none => exact (posOf_none h k hk rfl).elim
  | some j =>
    obtain ⟨h1, h2⟩ := posOf_some h
    rw [nodupB_get hn j k h1 hk h2]

mutual
/-- a value in the callee's numbers -/
def unA (s : List Nat) : AV → Option AV
  | .i v => some (.i v)
  | .agg l => match unL s l with | some m => some (.agg m) | none => none
  | .tup l => match unL s l with | some m => some (.tup m) | none => none
  | .osl id row => match posOf s id with | some k => some (.osl k row) | none => none
  | .oel id row z j off => match posOf s id with | some k => some (.oel k row z j off) | none => none
  | .optr id off => match posOf s id with | some k => some (.optr k off) | none => none
  | .clo f l => match unL s l with | some m => some (.clo f m) | none => none
  | .omap id => match posOf s id with | some k => some (.omap k) | none => none
  | .opt _ _ => none
  | .any => none
def unL (s : List Nat) : List AV → Option (List AV)
  | [] => some []
  | v :: r => match unA s v, unL s r with | some u, some m => some (u :: m) | _, _ => none
end

section
variable {s : List Nat}
mutual
theorem unA_ren : ∀ (v u : AV), unA s v = some u → renA s u = v ∧ refs (below s.length) u = true
  | .i v, u, h => by cases h; exact ⟨rfl, rfl⟩
  | .agg l, u, h => by
    simp only [unA] at h
    split at h
    · rename_i m hm; cases h; obtain ⟨h1, h2⟩ := unL_ren l m hm; exact ⟨by simp only [renA, h1], h2⟩
    · cases h
  | .tup l, u, h => by
    simp only [unA] at h
    split at h
    · rename_i m hm; cases h; obtain ⟨h1, h2⟩ := unL_ren l m hm; exact ⟨by simp only [renA, h1], h2⟩
    · cases h
  | .osl id row, u, h => by
    simp only [unA] at h
    split at h
    · rename_i k hk; cases h; obtain ⟨h1, h2⟩ := posOf_some hk; exact ⟨by simp only [renA, h2], by simpa [refs, below, Nat.blt_eq] using h1⟩
    · cases h
  | .oel id row z j off, u, h => by
    simp only [unA] at h
    split at h
    · rename_i k hk; cases h; obtain ⟨h1, h2⟩ := posOf_some hk; exact ⟨by simp only [renA, h2], by simpa [refs, below, Nat.blt_eq] using h1⟩
    · cases h
  | .optr id off, u, h => by
    simp only [unA] at h
    split at h
    · rename_i k hk; cases h; obtain ⟨h1, h2⟩ := posOf_some hk; exact ⟨by simp only [renA, h2], by simpa [refs, below, Nat.blt_eq] using h1⟩
    · cases h
  | .clo f l, u, h => by
    simp only [unA] at h
    split at h
    · rename_i m hm; cases h; obtain ⟨h1, h2⟩ := unL_ren l m hm; exact ⟨by simp only [renA, h1], h2⟩
    · cases h
  | .omap id, u, h => by
    simp only [unA] at h
    split at h
    · rename_i k hk; cases h; obtain ⟨h1, h2⟩ := posOf_some hk; exact ⟨by simp only [renA, h2], by simpa [refs, below, Nat.blt_eq] using h1⟩
    · cases h
  | .opt _ _, u, h => by cases h
  | .any, u, h => by cases h
theorem unL_ren : ∀ (l m : List AV), unL s l = some m → renL s m = l ∧ refsAll (below s.length) m = true
  | [], m, h => by cases h; exact ⟨rfl, rfl⟩
  | v :: r, m, h => by
    simp only [unL] at h
    split at h
    · rename_i u m' h1 h2
      cases h
      obtain ⟨e1, e2⟩ := unA_ren v u h1
      obtain ⟨f1, f2⟩ := unL_ren r m' h2
      exact ⟨by simp only [renL, e1, f1], refsAll_cons.2 ⟨e2, f2⟩⟩
    · cases h
end
end

/-- the caller's other objects -/
def killS (s : List Nat) : Nat → List AObj → List AObj
  | _, [] => []
  | k, o :: r => (match posOf s k with | some _ => .dead | none => o) :: killS s (k + 1) r

theorem killS_get (s : List Nat) : ∀ (l : List AObj) (k i : Nat), (killS s k l)[i]? = (l[i]?).map fun o => match posOf s (k + i) with | some _ => .dead | none => o
  | [], k, i => by simp [killS]
  | o :: r, k, 0 => by simp [killS]
  | o :: r, k, i + 1 => by
    have := killS_get s r (k + 1) i
    simp only [killS, List.getElem?_cons_succ]
    rw [this, show k + 1 + i = k + (i + 1) by omega]

theorem killS_length (s : List Nat) : ∀ (l : List AObj) (k : Nat), (killS s k l).length = l.length
  | [], _ => rfl
  | _ :: r, k => by simp [killS, killS_length s r]

theorem kill_live {s : List Nat} {id : Nat} {row : Option Nat} (h : live (killS s 0 H) id row) : live H id row ∧ posOf s id = none := by
  unfold live at h ⊢
  rw [killS_get, Nat.zero_add] at h
  cases ho : H[id]? with
  | none => rw [ho] at h; exact h.elim
  | some o =>
    rw [ho] at h
    simp only [Option.map_some] at h
    cases hp : posOf s id with
    | none => rw [hp] at h; exact ⟨h, rfl⟩
    | some k => rw [hp] at h; exact h.elim

theorem HOk.kill (h : HOk P I w X H) (s : List Nat) : HOk P I w X (killS s 0 H) := by
  refine ⟨fun id o ho => ?_, fun id row id' row' b h1 h2 => h.inj id row id' row' b (kill_live h1).1 (kill_live h2).1, fun id row b h1 => h.off id row b (kill_live h1).1⟩
  rw [killS_get, Nat.zero_add] at ho
  rw [killS_length]
  cases hh : H[id]? with
  | none => rw [hh] at ho; cases ho
  | some o' =>
    rw [hh] at ho
    simp only [Option.map_some, Option.some.injEq] at ho
    cases hp : posOf s id with
    | none => rw [hp] at ho; subst ho; exact h.obj id o' hh
    | some k => rw [hp] at ho; subst ho; trivial

/-- a handed object, as the callee sees it -/
def handO (s : List Nat) : AObj → Option AObj
  | .dead => none
  | .box t cells => match unL s cells with | some m => some (.box t m) | none => none
  | .arr _ t k n f => some (.arr true t k n f)
  | .arr2 .. => none
  | .map k et card dom val => some (.map k et card dom val)

def handL (s : List Nat) (H : List AObj) : List Nat → Option (List AObj)
  | [] => some []
  | i :: r => match H[i]? with
    | some o => match handO s o, handL s H r with
      | some o', some l => some (o' :: l)
      | _, _ => none
    | none => none

theorem handL_get {s : List Nat} : ∀ {r : List Nat} {l : List AObj}, handL s H r = some l → l.length = r.length ∧ (∀ k, k < r.length → ∃ o o', H[r.getD k 0]? = some o ∧ handO s o = some o' ∧ l[k]? = some o')
  | [], l, h => by cases h; exact ⟨rfl, fun k hk => by simp at hk⟩
  | i :: r, l, h => by
    simp only [handL] at h
    split at h
    · rename_i o ho
      split at h
      · rename_i o' l' h1 h2
        cases h
        obtain ⟨g1, g2⟩ := handL_get h2
        refine ⟨by simp [g1], fun k hk => ?_⟩
        cases k with
        | zero => exact ⟨o, o', by simpa using ho, h1, by simp⟩
        | succ k =>
          obtain ⟨a, b, e1, e2, e3⟩ := g2 k (by simpa using hk)
          exact ⟨a, b, by simpa using e1, e2, by simpa using e3⟩
      · cases h
    · cases h

theorem handO_live {s : List Nat} {o o' : AObj} (h : handO s o = some o') (row : Option Nat) : liveObj o' row ↔ liveObj o row := by
  cases o <;> simp only [handO] at h
  · cases h
  · split at h <;> cases h; exact Iff.rfl
  · cases h; exact Iff.rfl
  · cases h
  · cases h; exact Iff.rfl

theorem handO_fixed {s : List Nat} {o o' : AObj} (h : handO s o = some o') : fixedObj o' = true := by
  cases o <;> simp only [handO] at h
  · cases h
  · split at h <;> cases h; rfl
  · cases h; rfl
  · cases h
  · cases h; rfl

theorem orel_hand {s : List Nat} {n k : Nat} {o o' : AObj} (hX : ∀ id row, X'.val id row = X.val (s.getD id 0) row) (ho : handO s o = some o') (h : orel P I w X n (s.getD k 0) o) : orel P I w X' s.length k o' := by
  cases o with
  | dead => cases ho
  | box t cells =>
    simp only [handO] at ho
    split at ho
    · rename_i m hm
      cases ho
      obtain ⟨h1, h2⟩ := unL_ren cells m hm
      obtain ⟨b, cs, e1, e2, e3, e4, _⟩ := h
      exact ⟨b, cs, by rw [hX]; exact e1, e2, arelAll_ren hX _ _ (h1 ▸ e3), e4, h2⟩
    · cases ho
  | arr fx t z n' f => cases ho; show rowrel _ _ _ _ _ _ _; rw [hX]; exact h
  | arr2 fx t tr sr n' g hole => cases ho
  | map kk et card dom val =>
    cases ho
    obtain ⟨r, es, clock, h1, h2⟩ := h
    exact ⟨r, es, clock, by rw [hX]; exact h1, h2⟩

theorem handed_live {s : List Nat} {H0 : List AObj} (hH : handL s H s = some H0) {k : Nat} {row : Option Nat} (h : live H0 k row) : k < s.length ∧ live H (s.getD k 0) row := by
  obtain ⟨h1, h2⟩ := handL_get hH
  have hk : k < s.length := by rw [← h1]; exact live_lt h
  obtain ⟨o, o', e1, e2, e3⟩ := h2 k hk
  refine ⟨hk, ?_⟩
  unfold live at h ⊢
  rw [e3] at h; rw [e1]
  exact (handO_live e2 row).1 h

def X0of (s : List Nat) (X : Hd) : Hd := ⟨fun k row => X.val (s.getD k 0) row⟩

theorem HOk.hand {s : List Nat} {H0 : List AObj} {J : Nat → Prop} (h : HOk P I w X H) (hH : handL s H s = some H0) (hn : nodupB s = true) (hI : ∀ b, I b → J b)
    (hJ : ∀ id row b, live H id row → posOf s id ≠ none → X.blk id row = some b → ¬ J b) : HOk P J w (X0of s X) H0 := by
  obtain ⟨h1, h2⟩ := handL_get hH
  refine ⟨fun k o0 ho0 => ?_, fun k row k' row' b g1 g2 g3 g4 => ?_, fun k row b g1 g2 => ?_⟩
  · have hk : k < s.length := by rw [← h1]; exact (List.getElem?_eq_some_iff.1 ho0).1
    obtain ⟨o, o', e1, e2, e3⟩ := h2 k hk
    rw [e3] at ho0; cases ho0
    have := orel_hand (X' := X0of s X) (fun _ _ => rfl) e2 (h.obj _ o e1)
    rw [h1]
    exact orel_frame hI (fun _ _ => rfl) (Nat.le_refl _) H0 e3 (fun _ _ _ _ => rfl) this
  · obtain ⟨a1, a2⟩ := handed_live hH g1
    obtain ⟨b1, b2⟩ := handed_live hH g2
    obtain ⟨e1, e2⟩ := h.inj _ row _ row' b a2 b2 g3 g4
    exact ⟨nodupB_get hn _ _ a1 b1 e1, e2⟩
  · obtain ⟨a1, a2⟩ := handed_live hH g1
    exact hJ _ row b a2 (by rw [posOf_get hn a1]; simp) g2

theorem handed_own {s : List Nat} {H0 : List AObj} (hH : handL s H s = some H0) {b : Nat} (h : ownSet H0 (X0of s X) b) : ∃ k row, k < s.length ∧ live H (s.getD k 0) row ∧ X.blk (s.getD k 0) row = some b := by
  obtain ⟨k, row, h1, h2⟩ := h
  obtain ⟨h3, h4⟩ := handed_live hH h1
  exact ⟨k, row, h3, h4, h2⟩

/-! ### the arguments -/
def handArgs (T : TT) (s : List Nat) (H : List AObj) (env : Env) : List Operand → Option (List AV × List Bool)
  | [] => some ([], [])
  | x :: r => match opd env x with
    | some v => match handArgs T s H env r with
      | some (l, o2) => match unA s v with
        | some u => some (u :: l, opdOb env none x ++ o2)
        | none => match low T (killS s 0 H) 6 v with
          | some (e, o1) => some (.i e :: l, opdOb env none x ++ (o1 ++ o2))
          | none => none
      | none => none
    | none => none

def allUn (s : List Nat) (env : Env) : List Operand → Bool
  | [] => true
  | x :: r => match opd env x with
    | some v => match unA s v with | some _ => allUn s env r | none => false
    | none => false

theorem handArgs_sound {s : List Nat} {a : Act} (h : Rel C env H I X a.tmps w) : ∀ {l : List Operand} {m : List AV} {obs : List Bool}, handArgs T s H env l = some (m, obs) → allTrue obs →
    arelAll (fun b => I b ∨ ownSet (killS s 0 H) X b) w (X0of s X) m (l.map a.eval) ∧ refsAll (below s.length) m = true ∧ (allUn s env l = true → arelAll I w (X0of s X) m (l.map a.eval))
  | [], m, obs, hl, _ => by simp only [handArgs, Option.some.injEq, Prod.mk.injEq] at hl; obtain ⟨rfl, _⟩ := hl; exact ⟨rfl, rfl, fun _ => rfl⟩
  | x :: l, m, obs, hl, ho => by
    simp only [handArgs] at hl
    split at hl
    · rename_i v hv
      split at hl
      · rename_i r o2 h2
        obtain ⟨g, g1, _, g3, _⟩ := opd_sound h hv
        split at hl
        · rename_i u hu
          cases hl
          rw [allTrue_append] at ho
          obtain ⟨q1, q2, q3⟩ := handArgs_sound h h2 ho.2
          obtain ⟨e1, e2⟩ := unA_ren v u hu
          have hx : arel I w (X0of s X) u (a.eval x) := arel_ren (fun _ _ => rfl) _ _ (e1 ▸ g1 (g3 _ rfl ho.1))
          refine ⟨⟨_, _, rfl, arel_mono (fun _ h => .inl h) (fun _ _ => rfl) _ _ hx, q1⟩, refsAll_cons.2 ⟨e2, q2⟩, fun hall => ⟨_, _, rfl, hx, q3 ?_⟩⟩
          simp only [allUn, hv, hu] at hall
          exact hall
        · rename_i hu
          split at hl
          · rename_i e o1 h1
            cases hl
            rw [allTrue_append, allTrue_append] at ho
            obtain ⟨q1, q2, q3⟩ := handArgs_sound h h2 ho.2.2
            refine ⟨⟨_, _, rfl, low_sound (h.hok.kill s) 6 v _ e o1 (g1 (g3 _ rfl ho.1)) h1 ho.2.1, q1⟩, refsAll_cons.2 ⟨rfl, q2⟩, fun hall => ?_⟩
            simp only [allUn, hv, hu] at hall
            cases hall
          · cases hl
      · cases hl
    · cases hl

def handCallee (T : TT) (s : List Nat) (H : List AObj) (env : Env) (x : Operand) : Option (FuncId × List AV × List Bool) :=
  match opd env x with
  | some (.i (.clo f caps)) => match caps.all notAgg with
    | true => some (f, caps.map .i, opdOb env none x)
    | false => none
  | some (.clo f caps) => match unL s caps with
    | some m => some (f, m, opdOb env none x)
    | none => none
  | _ => none

theorem arelAll_of_crel {m : List IV} {ds : List Value} (h2 : crelAll I w m ds) (hn : m.all notAgg = true) : arelAll I w X (m.map .i) ds := by
  have := arelAll_i_append (X := X) (l := []) (cs := []) rfl h2 hn
  simpa using this

theorem refsAll_i {p : Nat → Option Nat → Bool} (l : List IV) : refsAll p (l.map .i) = true := by
  induction l with
  | nil => rfl
  | cons e l ih => exact refsAll_cons.2 ⟨rfl, ih⟩

theorem handCallee_sound {s : List Nat} {a : Act} (h : Rel C env H I X a.tmps w) {x : Operand} {f : FuncId} {caps : List AV} {obs : List Bool} (hc : handCallee T s H env x = some (f, caps, obs)) (ho : allTrue obs) :
    ∃ cs : List Value, a.eval x = .func (.func f) #[] cs.toArray ∧ arelAll I w (X0of s X) caps cs ∧ refsAll (below s.length) caps = true := by
  unfold handCallee at hc
  split at hc
  · rename_i f' caps' hx
    split at hc
    · rename_i hn
      cases hc
      obtain ⟨g, g1, _, g3, _⟩ := opd_sound h hx
      obtain ⟨vs, h1, h2⟩ := g1 (g3 _ rfl ho)
      simp only [List.cons.injEq, and_true] at h1
      exact ⟨vs, h1, arelAll_of_crel h2 hn, refsAll_i _⟩
    · cases hc
  · rename_i f' caps' hx
    split at hc
    · rename_i m hm
      cases hc
      obtain ⟨g, g1, _, g3, _⟩ := opd_sound h hx
      obtain ⟨vs, h1, h2⟩ := g1 (g3 _ rfl ho)
      obtain ⟨e1, e2⟩ := unL_ren _ _ hm
      exact ⟨vs, h1, arelAll_ren (fun _ _ => rfl) _ _ (e1 ▸ h2), e2⟩
    · cases hc
  · cases hc

/-! ### after the call -/
def newIds : Nat → Nat → List Nat
  | _, 0 => []
  | n, m + 1 => n :: newIds (n + 1) m

theorem newIds_get : ∀ (m n k : Nat), k < m → (newIds n m).getD k 0 = n + k
  | 0, n, k, h => by omega
  | m + 1, n, 0, _ => by simp [newIds]
  | m + 1, n, k + 1, h => by
    have := newIds_get m (n + 1) k (by omega)
    simp only [newIds, List.getD_cons_succ, this]
    omega

theorem newIds_length : ∀ (m n : Nat), (newIds n m).length = m
  | 0, _ => rfl
  | m + 1, n => by simp [newIds, newIds_length m]

/-- the callee's numbers, in the caller's -/
def selx (s : List Nat) (n m : Nat) : List Nat := s ++ newIds n (m - s.length)

theorem selx_old {s : List Nat} {n m k : Nat} (h : k < s.length) : (selx s n m).getD k 0 = s.getD k 0 := by
  simp [selx, List.getD, List.getElem?_append_left h]

theorem selx_new {s : List Nat} {n m k : Nat} (h : s.length ≤ k) (hm : k < m) : (selx s n m).getD k 0 = n + (k - s.length) := by
  have := newIds_get (m - s.length) n (k - s.length) (by omega)
  simp only [selx, List.getD, List.getElem?_append_right h]
  simpa [List.getD] using this

theorem selx_length {s : List Nat} {n m : Nat} (h : s.length ≤ m) : (selx s n m).length = m := by
  simp [selx, newIds_length]; omega

def renO (s : List Nat) : AObj → AObj
  | .box t cells => .box t (renL s cells)
  | o => o

def backO (s : List Nat) (o : AObj) : AObj → AObj
  | .arr _ t k n f => .arr (fixedObj o) t k n f
  | .box t cells => .box t (renL s cells)
  | o' => o'

def setH (s s' : List Nat) (H' : List AObj) : Nat → List AObj → List AObj
  | _, [] => []
  | k, o :: r => (match posOf s k with | some j => backO s' o (H'.getD j .dead) | none => o) :: setH s s' H' (k + 1) r

def renH (s : List Nat) : List AObj → List AObj
  | [] => []
  | o :: r => renO s o :: renH s r

/-- the caller's objects after the call -/
def backH (s : List Nat) (H H' : List AObj) : List AObj := setH s (selx s H.length H'.length) H' 0 H ++ renH (selx s H.length H'.length) (H'.drop s.length)

theorem setH_get (s s' : List Nat) (H' : List AObj) : ∀ (l : List AObj) (k i : Nat), (setH s s' H' k l)[i]? = (l[i]?).map fun o => match posOf s (k + i) with | some j => backO s' o (H'.getD j .dead) | none => o
  | [], k, i => by simp [setH]
  | o :: r, k, 0 => by simp [setH]
  | o :: r, k, i + 1 => by
    have := setH_get s s' H' r (k + 1) i
    simp only [setH, List.getElem?_cons_succ]
    rw [this, show k + 1 + i = k + (i + 1) by omega]

theorem setH_length (s s' : List Nat) (H' : List AObj) : ∀ (l : List AObj) (k : Nat), (setH s s' H' k l).length = l.length
  | [], _ => rfl
  | _ :: r, k => by simp [setH, setH_length s s' H' r]

theorem renH_length (s : List Nat) : ∀ l : List AObj, (renH s l).length = l.length
  | [] => rfl
  | _ :: r => by simp [renH, renH_length s r]

theorem renH_get (s : List Nat) (i : Nat) : ∀ l : List AObj, (renH s l)[i]? = (l[i]?).map (renO s)
  | [] => by simp [renH]
  | o :: r => by
    cases i with
    | zero => simp [renH]
    | succ i => simpa [renH] using renH_get s i r

/-- rows only of new objects -/
def okRef (sl m : Nat) (id : Nat) (row : Option Nat) : Bool := match Nat.blt id m with
  | true => (match row with | none => true | some _ => Nat.ble sl id)
  | false => false

def refsO (p : Nat → Option Nat → Bool) : AObj → Bool
  | .box _ cells => refsAll p cells
  | _ => true
def refsH (p : Nat → Option Nat → Bool) : List AObj → Bool
  | [] => true
  | o :: r => match refsO p o with | true => refsH p r | false => false

theorem refsH_get {p : Nat → Option Nat → Bool} : ∀ {l : List AObj} {i : Nat} {o : AObj}, refsH p l = true → l[i]? = some o → refsO p o = true
  | [], i, o, _, h => by simp at h
  | a :: l, 0, o, hp, h => by
    simp at h; subst h
    simp only [refsH] at hp
    split at hp
    · assumption
    · cases hp
  | a :: l, i + 1, o, hp, h => by
    simp only [refsH] at hp
    split at hp
    · exact refsH_get hp (by simpa using h)
    · cases hp

def notArr2 : AObj → Bool
  | .arr2 .. => false
  | _ => true
def oldOk : Nat → List AObj → Bool
  | 0, _ => true
  | n + 1, o :: r => match notArr2 o with | true => oldOk n r | false => false
  | _ + 1, [] => false

theorem oldOk_get : ∀ {n : Nat} {l : List AObj} {i : Nat}, oldOk n l = true → i < n → ∃ o, l[i]? = some o ∧ notArr2 o = true
  | n + 1, o :: r, i, h, hi => by
    simp only [oldOk] at h
    split at h
    · cases i with
      | zero => exact ⟨o, by simp, by assumption⟩
      | succ i => simpa using oldOk_get h (by omega)
    · cases h

section
variable {s : List Nat} {p : Nat → Option Nat → Bool} (hX : ∀ id row, p id row = true → X'.val (s.getD id 0) row = X.val id row)
include hX
mutual
theorem arel_renB : ∀ (v : AV) (x : Value), refs p v = true → arel I w X v x → arel I w X' (renA s v) x
  | .i _, _, _, h => h
  | .agg l, _, hr, h => by obtain ⟨cs, h1, h2, h3⟩ := h; exact ⟨cs, h1, arelAll_renB l cs hr h2, h3⟩
  | .tup l, _, hr, h => by obtain ⟨cs, h1, h2⟩ := h; exact ⟨cs, h1, arelAll_renB l cs hr h2⟩
  | .osl id row, x, hr, h => by have := hX id row hr; simp only [renA, arel, this] at h ⊢; exact h
  | .oel id row s j off, x, hr, h => by have := hX id row hr; simp only [renA, arel, this] at h ⊢; exact h
  | .optr id off, x, hr, h => by have := hX id none hr; simp only [renA, arel, this] at h ⊢; exact h
  | .clo _ l, _, hr, h => by obtain ⟨cs, h1, h2⟩ := h; exact ⟨cs, h1, arelAll_renB l cs hr h2⟩
  | .omap id, x, hr, h => by have := hX id none hr; simp only [renA, arel, this] at h ⊢; exact h
  | .opt _ v, x, hr, h => ⟨fun g => arel_renB v x hr (h.1 g), h.2⟩
  | .any, _, _, _ => trivial
theorem arelAll_renB : ∀ (l : List AV) (cs : List Value), refsAll p l = true → arelAll I w X l cs → arelAll I w X' (renL s l) cs
  | [], _, _, h => h
  | e :: l, _, hr, h => by
    obtain ⟨v, r, h1, h2, h3⟩ := h
    rw [refsAll_cons] at hr
    exact ⟨v, r, h1, arel_renB e v hr.1 h2, arelAll_renB l r hr.2 h3⟩
end
end

section
variable {s : List Nat} {p q : Nat → Option Nat → Bool} (hq : ∀ id row, p id row = true → q (s.getD id 0) row = true)
include hq
mutual
theorem refs_ren : ∀ (v : AV), refs p v = true → refs q (renA s v) = true
  | .i _, _ => rfl
  | .agg l, h => refsAll_ren l h
  | .tup l, h => refsAll_ren l h
  | .osl id row, h => hq _ _ h
  | .oel id row s j off, h => hq _ _ h
  | .optr id off, h => hq _ _ h
  | .clo _ l, h => refsAll_ren l h
  | .omap id, h => hq _ _ h
  | .opt _ v, h => refs_ren v h
  | .any, _ => rfl
theorem refsAll_ren : ∀ (l : List AV), refsAll p l = true → refsAll q (renL s l) = true
  | [], _ => rfl
  | e :: l, h => by rw [refsAll_cons] at h; exact refsAll_cons.2 ⟨refs_ren e h.1, refsAll_ren l h.2⟩
end
end

theorem orel_renB {s : List Nat} {p : Nat → Option Nat → Bool} {m n k : Nat} {o : AObj} (hX : ∀ id row, p id row = true → X'.val (s.getD id 0) row = X.val id row)
    (hq : ∀ id row, p id row = true → below n (s.getD id 0) row = true) (hp : refsO p o = true) (hv : ∀ row, (notArr2 o = true → row = none) → X'.val (s.getD k 0) row = X.val k row) (h : orel P I w X m k o) : orel P I w X' n (s.getD k 0) (renO s o) := by
  cases o with
  | dead => trivial
  | box t cells =>
    obtain ⟨b, cs, h1, h2, h3, h4, h5⟩ := h
    exact ⟨b, cs, by rw [hv none (fun _ => rfl)]; exact h1, h2, arelAll_renB hX _ _ hp h3, h4, refsAll_ren hq _ hp⟩
  | arr fx t z n' f => show rowrel _ _ _ _ _ _ _; rw [hv none (fun _ => rfl)]; exact h
  | arr2 fx t tr sr n' g hole =>
    obtain ⟨⟨xs, h1, h2, h3⟩, h4⟩ := h
    exact ⟨⟨xs, by rw [hv _ (fun h => by cases h)]; exact h1, h2, fun j hj hh => by rw [hv _ (fun h => by cases h)]; exact h3 j hj hh⟩, fun j hj hh => by rw [hv _ (fun h => by cases h)]; exact h4 j hj hh⟩
  | map kk et card dom val =>
    obtain ⟨r, es, clock, h1, h2⟩ := h
    exact ⟨r, es, clock, by rw [hv none (fun _ => rfl)]; exact h1, h2⟩

theorem orel_backO {s : List Nat} {n id : Nat} {o o' : AObj} (h : orel P I w X n id (renO s o')) : orel P I w X n id (backO s o o') := by
  cases o' <;> exact h

theorem backO_live {s : List Nat} {o o' : AObj} (row : Option Nat) : liveObj (backO s o o') row ↔ liveObj o' row := by cases o' <;> exact Iff.rfl
theorem renO_live {s : List Nat} {o' : AObj} (row : Option Nat) : liveObj (renO s o') row ↔ liveObj o' row := by cases o' <;> exact Iff.rfl
theorem live_row {o : AObj} {row : Option Nat} (h : liveObj o row) (hn : notArr2 o = true) : row = none := by
  cases o with
  | dead => exact h.elim
  | arr2 => cases hn
  | _ => exact h

end Go.AM

namespace Go.AM
open Go.RowKit

variable {C : Ctx} {env env' : Env} {H H' : List AObj} {I : Nat → Prop} {X X' : Hd} {tmps : Array Value} {w w' : World} {P : Program} {T : TT}

theorem orel_I {J : Nat → Prop} {n id : Nat} {o : AObj} (hI : ∀ b, I b → J b) (h : orel P I w X n id o) : orel P J w X n id o :=
  orel_frame hI (fun _ _ => rfl) (Nat.le_refl _) (List.replicate id .dead ++ [o]) (by simp) (fun _ _ _ _ => rfl) h

/-- may the callee's result be taken back -/
def backOk (s : List Nat) (r : AV) (H' : List AObj) : Bool :=
  match refs (okRef s.length H'.length) r, refsH (okRef s.length H'.length) H' with
  | true, true => oldOk s.length H'
  | _, _ => false

theorem Rel.handBack {s : List Nat} {H0 : List AObj} {J : Nat → Prop} (h : Rel C env H I X tmps w) (hH : handL s H s = some H0) (hn : nodupB s = true)
    (hok : HOk C.P J w' X' H') (hJ : ∀ b, J b → I b ∨ w.heap.size ≤ b) (hJl : ∀ b, J b → b < w'.heap.size)
    (hown : ∀ id row b, live H' id row → X'.blk id row = some b → ownSet H0 (X0of s X) b ∨ w.heap.size ≤ b) (hkeep : Keep (ownSet H0 (X0of s X)) w w')
    (hfx : ∀ k o, H0[k]? = some o → fixedObj o = true → (∃ o', H'[k]? = some o' ∧ fixedObj o' = true) ∧ X'.val k none = (X0of s X).val k none)
    {r : AV} (hb : backOk s r H' = true) :
    ∃ X'', Rel C env (backH s H H') (fun b => I b ∨ J b) X'' tmps w' ∧ (∀ v, arel J w' X' r v → arel (fun b => I b ∨ J b) w' X'' (renA (selx s H.length H'.length) r) v) ∧
      refs (below (backH s H H').length) (renA (selx s H.length H'.length) r) = true := by
  unfold backOk at hb
  split at hb
  rotate_left
  · cases hb
  rename_i hb1 hb2
  obtain ⟨hl0, hg0⟩ := handL_get hH
  -- the handed objects are all still there
  have hthere : ∀ k, k < s.length → (∃ o', H'[k]? = some o' ∧ fixedObj o' = true) ∧ X'.val k none = X.val (s.getD k 0) none := by
    intro k hk
    obtain ⟨o, o', e1, e2, e3⟩ := hg0 k hk
    exact hfx k o' e3 (handO_fixed e2)
  have hsl : s.length ≤ H'.length := by
    rcases Nat.lt_or_ge H'.length s.length with hlt | hge
    · obtain ⟨⟨o', h1, _⟩, _⟩ := hthere H'.length hlt
      have := (List.getElem?_eq_some_iff.1 h1).1
      omega
    · exact hge
  have hslt : ∀ k, k < s.length → s.getD k 0 < H.length := by
    intro k hk
    obtain ⟨o, o', e1, _⟩ := hg0 k hk
    exact (List.getElem?_eq_some_iff.1 e1).1
  let s' := selx s H.length H'.length
  let X'' : Hd := ⟨fun id row => if id < H.length then X.val id row else X'.val (s.length + (id - H.length)) row⟩
  have hX1 : ∀ id row, id < H.length → X''.val id row = X.val id row := fun id row hid => by simp [X'', hid]
  have hX2 : ∀ k row, s.length ≤ k → k < H'.length → X''.val (s'.getD k 0) row = X'.val k row := by
    intro k row h1 h2
    show (if s'.getD k 0 < H.length then X.val (s'.getD k 0) row else X'.val (s.length + (s'.getD k 0 - H.length)) row) = _
    rw [show s'.getD k 0 = H.length + (k - s.length) from selx_new h1 h2, if_neg (by omega), show s.length + (H.length + (k - s.length) - H.length) = k by omega]
  have hX3 : ∀ k, k < s.length → X''.val (s'.getD k 0) none = X'.val k none := by
    intro k hk
    rw [show s'.getD k 0 = s.getD k 0 from selx_old hk, hX1 _ _ (hslt k hk), (hthere k hk).2]
  have hXp : ∀ id row, okRef s.length H'.length id row = true → X''.val (s'.getD id 0) row = X'.val id row := by
    intro id row hp
    unfold okRef at hp
    split at hp
    · rename_i hlt
      rw [Nat.blt_eq] at hlt
      split at hp
      · rcases Nat.lt_or_ge id s.length with h1 | h1
        · exact hX3 id h1
        · exact hX2 id none h1 hlt
      · exact hX2 id _ (by simpa [Nat.ble_eq] using hp) hlt
    · cases hp
  have hlen : (backH s H H').length = H.length + (H'.length - s.length) := by simp [backH, setH_length, renH_length]
  have hbel : ∀ id row, okRef s.length H'.length id row = true → below (backH s H H').length (s'.getD id 0) row = true := by
    intro id row hp
    have hlt : id < H'.length := by
      unfold okRef at hp
      split at hp
      · rename_i hlt; rwa [Nat.blt_eq] at hlt
      · cases hp
    simp only [below, Nat.blt_eq, hlen]
    rcases Nat.lt_or_ge id s.length with h1 | h1
    · have := hslt id h1
      rw [show s'.getD id 0 = s.getD id 0 from selx_old h1]; omega
    · rw [show s'.getD id 0 = H.length + (id - s.length) from selx_new h1 hlt]; omega
  -- what the caller owns and did not hand over
  have hnot : ∀ id row b, live H id row → posOf s id = none → X.blk id row = some b → ¬ ownSet H0 (X0of s X) b := by
    intro id row b h1 h2 h3 h4
    obtain ⟨k, row', h5, h6, h7⟩ := handed_own hH h4
    obtain ⟨rfl, _⟩ := h.hok.inj _ _ _ _ b h1 h6 h3 h7
    exact posOf_none h2 k h5 rfl
  have hIno : ∀ b, I b → ¬ ownSet H0 (X0of s X) b := by
    intro b h1 h4
    obtain ⟨k, row', h5, h6, h7⟩ := handed_own hH h4
    exact h.hok.off _ _ b h6 h7 h1
  have hIw : ∀ b, I b → w'.heap[b]? = w.heap[b]? := fun b hb => hkeep.block b (h.ilt b hb) (hIno b hb)
  -- where a live object of the caller comes from
  have hlive : ∀ id row, live (backH s H H') id row → (live H id row ∧ posOf s id = none ∧ id < H.length) ∨
      ∃ k, id = s'.getD k 0 ∧ live H' k row ∧ X''.val id row = X'.val k row ∧ k < H'.length := by
    intro id row hl
    unfold live at hl
    unfold backH at hl
    by_cases hid : id < H.length
    · rw [List.getElem?_append_left (by rw [setH_length]; exact hid), setH_get, Nat.zero_add] at hl
      rw [List.getElem?_eq_getElem hid] at hl
      simp only [Option.map_some] at hl
      cases hp : posOf s id with
      | none =>
        rw [hp] at hl
        left
        refine ⟨?_, rfl, hid⟩
        unfold live
        rw [List.getElem?_eq_getElem hid]
        exact hl
      | some k =>
        rw [hp] at hl
        right
        obtain ⟨h1, h2⟩ := posOf_some hp
        obtain ⟨o', h3, h4⟩ := oldOk_get hb h1
        have h5 : H'.getD k .dead = o' := by simp [List.getD, h3]
        simp only [h5] at hl
        have h6 := (backO_live row).1 hl
        have h7 := live_row h6 h4
        subst h7
        refine ⟨k, ?_, ?_, ?_, by omega⟩
        · rw [← h2]; exact (selx_old h1).symm
        · unfold live; rw [h3]; exact h6
        · have := hX3 k h1
          rw [show s'.getD k 0 = s.getD k 0 from selx_old h1, h2] at this
          exact this
    · rw [List.getElem?_append_right (by rw [setH_length]; omega), setH_length, renH_get, List.getElem?_drop] at hl
      cases ho : H'[s.length + (id - H.length)]? with
      | none => rw [ho] at hl; exact hl.elim
      | some o' =>
        rw [ho] at hl
        have hlt := (List.getElem?_eq_some_iff.1 ho).1
        right
        refine ⟨s.length + (id - H.length), ?_, ?_, ?_, hlt⟩
        · rw [show s'.getD (s.length + (id - H.length)) 0 = _ from selx_new (by omega) hlt]; omega
        · unfold live; rw [ho]; exact (renO_live row).1 hl
        · show (if id < H.length then _ else _) = _
          rw [if_neg hid]
  have hblk : ∀ {id k : Nat} {row : Option Nat}, X''.val id row = X'.val k row → X''.blk id row = X'.blk k row := fun h => by unfold Hd.blk; rw [h]
  refine ⟨X'', ⟨h.size, fun k u hk => ?_, ⟨?_, ?_, ?_⟩, fun b hb => .inl (h.sub b hb), ?_, ?_, ?_, ?_, fun k hk => ?_⟩, fun v hv => ?_, ?_⟩
  · obtain ⟨a, b, c⟩ := h.env k u hk
    refine ⟨a, refs_mono (below_mono (by omega)) _ b, arel_mono (I := I) (w := w) (fun _ h => .inl h) hIw _ _ (arel_congr (p := below H.length) (fun id row hb => hX1 id row (by simpa [below, Nat.blt_eq] using hb)) _ _ b c)⟩
  · intro id o'' ho''
    rw [hlen]
    unfold backH at ho''
    by_cases hid : id < H.length
    · rw [List.getElem?_append_left (by rw [setH_length]; exact hid), setH_get, Nat.zero_add, List.getElem?_eq_getElem hid] at ho''
      simp only [Option.map_some, Option.some.injEq] at ho''
      cases hp : posOf s id with
      | none =>
        rw [hp] at ho''
        simp only at ho''
        subst ho''
        have h2 := orel_hd hX1 hid (h.hok.obj id _ (List.getElem?_eq_getElem hid))
        refine orel_frame (fun _ h => .inl h) hIw (by omega) H (List.getElem?_eq_getElem hid) (fun row b g1 g2 => ?_) h2
        rw [blk_congr (hX1 id row hid)] at g2
        exact hkeep.block b (blk_lt_of_orel h.hok g1 g2) (hnot id row b g1 hp g2)
      | some k =>
        rw [hp] at ho''
        simp only at ho''
        obtain ⟨h1, h2⟩ := posOf_some hp
        obtain ⟨o', h3, h4⟩ := oldOk_get hb h1
        have h5 : H'.getD k .dead = o' := by simp [List.getD, h3]
        rw [h5] at ho''
        subst ho''
        refine orel_backO ?_
        have h6 := orel_renB (X' := X'') (s := s') (p := okRef s.length H'.length) (n := (backH s H H').length) hXp hbel (refsH_get hb2 h3) (fun row hr => by rw [hr h4]; exact hX3 k h1) (hok.obj k o' h3)
        rw [show s'.getD k 0 = s.getD k 0 from selx_old h1, h2, hlen] at h6
        exact orel_I (fun _ h => .inr h) h6
    · rw [List.getElem?_append_right (by rw [setH_length]; omega), setH_length, renH_get, List.getElem?_drop] at ho''
      cases ho : H'[s.length + (id - H.length)]? with
      | none => rw [ho] at ho''; cases ho''
      | some o' =>
        rw [ho] at ho''
        simp only [Option.map_some, Option.some.injEq] at ho''
        subst ho''
        have hlt := (List.getElem?_eq_some_iff.1 ho).1
        have h6 := orel_renB (X' := X'') (s := s') (p := okRef s.length H'.length) (n := (backH s H H').length) hXp hbel (refsH_get hb2 ho) (fun row _ => hX2 _ row (by omega) hlt) (hok.obj _ o' ho)
        rw [show s'.getD (s.length + (id - H.length)) 0 = _ from selx_new (by omega) hlt, show H.length + (s.length + (id - H.length) - s.length) = id by omega, hlen] at h6
        exact orel_I (fun _ h => .inr h) h6
  · intro id row id' row' b h1 h2 h3 h4
    rcases hlive id row h1 with ⟨h5, h6, h6'⟩ | ⟨k, rfl, h5, h6, h6'⟩ <;> rcases hlive id' row' h2 with ⟨h7, h8, h8'⟩ | ⟨k', rfl, h7, h8, h8'⟩
    · rw [blk_congr (hX1 id row h6')] at h3; rw [blk_congr (hX1 id' row' h8')] at h4
      exact h.hok.inj id row id' row' b h5 h7 h3 h4
    · rw [blk_congr (hX1 id row h6')] at h3
      rw [hblk h8] at h4
      have := blk_lt_of_orel h.hok h5 h3
      rcases hown k' row' b h7 h4 with h9 | h9
      · exact (hnot id row b h5 h6 h3 h9).elim
      · omega
    · rw [blk_congr (hX1 id' row' h8')] at h4
      rw [hblk h6] at h3
      have := blk_lt_of_orel h.hok h7 h4
      rcases hown k row b h5 h3 with h9 | h9
      · exact (hnot id' row' b h7 h8 h4 h9).elim
      · omega
    · rw [hblk h6] at h3
      rw [hblk h8] at h4
      obtain ⟨rfl, rfl⟩ := hok.inj k row k' row' b h5 h7 h3 h4
      exact ⟨rfl, rfl⟩
  · intro id row b h1 h3 hIJ
    rcases hlive id row h1 with ⟨h5, h6, h6'⟩ | ⟨k, rfl, h5, h6, h6'⟩
    · rw [blk_congr (hX1 id row h6')] at h3
      rcases hIJ with hI | hJ'
      · exact h.hok.off id row b h5 h3 hI
      · have hlt := blk_lt_of_orel h.hok h5 h3
        rcases hJ b hJ' with hI | hge
        · exact h.hok.off id row b h5 h3 hI
        · omega
    · rw [hblk h6] at h3
      rcases hIJ with hI | hJ'
      · rcases hown k row b h5 h3 with h9 | h9
        · exact hIno b hI h9
        · have := h.ilt b hI; omega
      · exact hok.off k row b h5 h3 hJ'
  · rintro b (hb | hb)
    · exact h.sup b hb
    · rcases hJ b hb with h1 | h1
      · exact h.sup b h1
      · right; have := h.keep.size; omega
  · rintro b (hb | hb)
    · have := h.ilt b hb; have := hkeep.size; omega
    · exact hJl b hb
  · intro id row b h1 h3
    rcases hlive id row h1 with ⟨h5, h6, h6'⟩ | ⟨k, rfl, h5, h6, h6'⟩
    · rw [blk_congr (hX1 id row h6')] at h3
      exact h.own id row b h5 h3
    · rw [hblk h6] at h3
      rcases hown k row b h5 h3 with h9 | h9
      · obtain ⟨j, row', g1, g2, g3⟩ := handed_own hH h9
        exact h.own _ _ b g2 g3
      · right; have := h.keep.size; omega
  · refine h.keep.step hkeep.os hkeep.tape hkeep.output hkeep.size (fun k g1 g2 g3 => hkeep.block k g1 (fun h9 => ?_))
    obtain ⟨j, row', e1, e2, e3⟩ := handed_own hH h9
    rcases h.own _ _ k e2 e3 with h4 | h4
    · exact g2 h4
    · omega
  · obtain ⟨⟨o, h1, h2⟩, h3⟩ := h.hfx k hk
    have hlt := (List.getElem?_eq_some_iff.1 h1).1
    refine ⟨?_, by rw [hX1 k none hlt]; exact h3⟩
    unfold backH
    rw [List.getElem?_append_left (by rw [setH_length]; exact hlt), setH_get, Nat.zero_add, h1]
    simp only [Option.map_some]
    cases hp : posOf s k with
    | none => exact ⟨_, rfl, h2⟩
    | some j =>
      obtain ⟨e1, e2⟩ := posOf_some hp
      obtain ⟨⟨o', e3, e4⟩, _⟩ := hthere j e1
      have e5 : H'.getD j .dead = o' := by simp [List.getD, e3]
      refine ⟨_, rfl, ?_⟩
      simp only [e5]
      cases o' with
      | arr fx t z n f => exact h2
      | _ => exact e4
  · exact arel_mono (fun _ h => .inr h) (fun _ _ => rfl) _ _ (arel_renB hXp r v hb1 hv)
  · exact refs_ren hbel r hb1

theorem handCall_core {K : Act → World → Prop} {Q : Exit → Act → World → Prop} {env1 : Env} {o : Oper} {fo : Operand} {args : Array Operand} {ts : Array TypeId} {f : FuncId} {caps ivs : List AV} {o1 o2 : List Bool} {Qc : AV → List AObj → Prop} {a : Act} {H0 : List AObj} (s : List Nat)
    (hrel : Rel C env H I X a.tmps w) (hsub : Sub env env1)
    (hop : o.op = .call ⟨.value fo, args, ts⟩) (hH : handL s H s = some H0) (hn : nodupB s = true)
    (hfo : handCallee T s H env1 fo = some (f, caps, o1)) (ho1 : allTrue o1) (hargs : handArgs T s H env1 args.toList = some (ivs, o2)) (ho2 : allTrue o2)
    (hc : ACalls C.P f (ivs ++ caps) H0 Qc) (hpl : (∀ r H', Qc r H' → plA r ∧ plH H') ∨ (allUn s env1 args.toList = true)) (hbk : ∀ r H', Qc r H' → backOk s r H' = true)
    (hk : ∀ r H' v w' J X'', Qc r H' → Rel C env (backH s H H') J X'' a.tmps w' → arel J w' X'' (renA (selx s H.length H'.length) r) v → refs (below (backH s H H').length) (renA (selx s H.length H'.length) r) = true → K (a.put o.dst v) w') :
    o.wp C.P a w K Q := by
  have hrel1 := hrel.subEnv hsub
  obtain ⟨cs, hev, hcap, hcr⟩ := handCallee_sound hrel1 hfo ho1
  obtain ⟨harg, hrefs, hall⟩ := handArgs_sound hrel1 hargs ho2
  obtain ⟨hl0, _⟩ := handL_get hH
  unfold Oper.wp
  rw [run_callFn hop hev hc.1 w, Oper.upon_enter]
  have hrefs' : refsAll (below H0.length) (ivs ++ caps) = true := by rw [hl0]; exact refsAll_append hrefs hcr
  have hownlt : ∀ b, ownSet (killS s 0 H) X b → b < w.heap.size := fun b ⟨id, row, h1, h2⟩ => blk_lt_of_orel hrel.hok (kill_live h1).1 h2
  have hkn : ∀ id row b, live H id row → posOf s id ≠ none → X.blk id row = some b → ¬ ownSet (killS s 0 H) X b := by
    rintro id row b h1 h2 h3 ⟨id', row', h4, h5⟩
    obtain ⟨h6, h7⟩ := kill_live h4
    obtain ⟨rfl, _⟩ := hrel.hok.inj _ _ _ _ b h1 h6 h3 h5
    exact h2 h7
  have go : ∀ {J : Nat → Prop} {v : Value} {w' : World} {r : AV} {H' : List AObj} {X' : Hd}, Qc r H' → arel J w' X' r v → HOk C.P J w' X' H' → (∀ b, J b → I b ∨ w.heap.size ≤ b) → (∀ b, J b → b < w'.heap.size) →
      (∀ id row b, live H' id row → X'.blk id row = some b → ownSet H0 (X0of s X) b ∨ w.heap.size ≤ b) → Keep (ownSet H0 (X0of s X)) w w' →
      (∀ k o, H0[k]? = some o → fixedObj o = true → (∃ o', H'[k]? = some o' ∧ fixedObj o' = true) ∧ X'.val k none = (X0of s X).val k none) → K (a.put o.dst v) w' := by
    intro J v w' r H' X' hq h1 h3 h4 h5 h6 h7 h8
    obtain ⟨X'', e1, e2, e3⟩ := hrel.handBack hH hn h3 h4 h5 h6 h7 h8 (hbk r H' hq)
    exact hk r H' v w' _ X'' hq e1 (e2 v h1) e3
  rcases hpl with hpl | hpl
  · have hcalls := hc.2 w (args.toList.map a.eval ++ cs) (fun b => I b ∨ ownSet (killS s 0 H) X b) (X0of s X)
      (hrel.hok.hand hH hn (fun _ h => .inl h) (fun id row b h1 h2 h3 h4 => h4.elim (hrel.hok.off id row b h1 h3) (hkn id row b h1 h2 h3)))
      (fun b hb => hb.elim (hrel.ilt b) (hownlt b)) (arelAll_append harg (arelAll_mono (fun _ h => .inl h) (fun _ _ => rfl) _ _ hcap)) hrefs'
    refine hcalls.mono ?_
    rintro e w' ⟨v, r, H', I', X', rfl, hr⟩
    obtain ⟨p1, p2⟩ := hpl r H' hr.q
    exact go (J := fun b => I' b ∧ w.heap.size ≤ b) hr.q (arel_pl _ _ p1 hr.rel) ⟨fun id o ho => orel_pl (plH_get p2 ho) (hr.hok.obj id o ho), hr.hok.inj, fun id row b h1 h2 hJ => hr.hok.off id row b h1 h2 hJ.1⟩
      (fun b hb => .inr hb.2) (fun b hb => hr.ilt b hb.1) hr.own hr.keep hr.fx
  · have hcalls := hc.2 w (args.toList.map a.eval ++ cs) I (X0of s X)
      (hrel.hok.hand hH hn (fun _ h => h) (fun id row b h1 _ h3 => hrel.hok.off id row b h1 h3))
      hrel.ilt (arelAll_append (hall hpl) hcap) hrefs'
    refine hcalls.mono ?_
    rintro e w' ⟨v, r, H', I', X', rfl, hr⟩
    exact go (J := I') hr.q hr.rel hr.hok hr.sup hr.ilt hr.own hr.keep hr.fx

/-- the contract of a function that is handed objects, with one answer -/
def AFnH (P : Program) (f : FuncId) (args : List AV) (H0 : List AObj) (r : AV) (H' : List AObj) : Prop := ACalls P f args H0 (fun r' H'' => r' = r ∧ H'' = H')

/-- **A call that hands over owned objects.** -/
theorem AOps.callH {all rest : List Oper} {Q : Post} {o : Oper} {fo : Operand} {args : Array Operand} {ts : Array TypeId} {f : FuncId} {caps ivs : List AV} {o1 o2 : List Bool} {r : AV} {H0 H2 : List AObj} (s : List Nat)
    (hop : o.op = .call ⟨.value fo, args, ts⟩) (hg : o.guard = none) (hH : handL s H s = some H0) (hn : nodupB s = true) (hfo : handCallee T s H env fo = some (f, caps, o1)) (hargs : handArgs T s H env args.toList = some (ivs, o2)) (ho : allTrue (o1 ++ o2))
    (hc : AFnH C.P f (ivs ++ caps) H0 r H2) (hpl : (plA r ∧ plH H2) ∨ (allUn s env args.toList = true)) (hbk : backOk s r H2 = true)
    (hput : dput C.N o.dst (renA (selx s H.length H2.length) r) env = some env') (hk : AOps C all rest Q env' (backH s H H2)) : AOps C all (o :: rest) Q env H := by
  intro a w hst
  obtain ⟨hd, I, X, hrel⟩ := hst
  rw [allTrue_append] at ho
  have hwant : Region.wanted o (yielded all.toArray a.tmps) = true := by unfold Region.wanted; rw [hg]
  show (if Region.wanted o (yielded all.toArray a.tmps) then _ else _)
  rw [if_pos hwant]
  refine .inl (handCall_core s hrel (Sub.refl _) hop hH hn hfo ho.1 hargs ho.2 hc (hpl.imp (fun h r' H' ⟨h1, h2⟩ => by rw [h1, h2]; exact h) id) (fun r' H' ⟨h1, h2⟩ => by rw [h1, h2]; exact hbk) ?_)
  rintro _ _ v w' J X'' ⟨rfl, rfl⟩ e3 e4 e5
  refine hk _ _ ⟨by rw [(put_tmps a o.dst v).2]; exact hd, J, X'', ?_⟩
  rw [(put_tmps a o.dst v).1]
  exact dput_rel e3 e4 e5 hput

/-- **A call that hands over owned objects, with some answer.** -/
theorem AOps.callHQ {all rest : List Oper} {Q : Post} {o : Oper} {fo : Operand} {args : Array Operand} {ts : Array TypeId} {f : FuncId} {caps ivs : List AV} {o1 o2 : List Bool} {H0 : List AObj} {Qc : AV → List AObj → Prop} (s : List Nat)
    (hop : o.op = .call ⟨.value fo, args, ts⟩) (hg : o.guard = none) (hH : handL s H s = some H0) (hn : nodupB s = true) (hfo : handCallee T s H env fo = some (f, caps, o1)) (hargs : handArgs T s H env args.toList = some (ivs, o2)) (ho : allTrue (o1 ++ o2))
    (hc : ACalls C.P f (ivs ++ caps) H0 Qc) (hpl : (∀ r H', Qc r H' → plA r ∧ plH H') ∨ (allUn s env args.toList = true)) (hbk : ∀ r H', Qc r H' → backOk s r H' = true)
    (hk : ∀ r H', Qc r H' → ∃ env', dput C.N o.dst (renA (selx s H.length H'.length) r) env = some env' ∧ AOps C all rest Q env' (backH s H H')) : AOps C all (o :: rest) Q env H := by
  intro a w hst
  obtain ⟨hd, I, X, hrel⟩ := hst
  rw [allTrue_append] at ho
  have hwant : Region.wanted o (yielded all.toArray a.tmps) = true := by unfold Region.wanted; rw [hg]
  show (if Region.wanted o (yielded all.toArray a.tmps) then _ else _)
  rw [if_pos hwant]
  refine .inl (handCall_core s hrel (Sub.refl _) hop hH hn hfo ho.1 hargs ho.2 hc hpl hbk ?_)
  intro r H' v w' J X'' hq e3 e4 e5
  obtain ⟨env', hput, hops⟩ := hk r H' hq
  refine hops _ _ ⟨by rw [(put_tmps a o.dst v).2]; exact hd, J, X'', ?_⟩
  rw [(put_tmps a o.dst v).1]
  exact dput_rel e3 e4 e5 hput

/-- the same in a drawn region -/
theorem OpStep.of_callH {all : List Oper} {o : Oper} {fo : Operand} {args : Array Operand} {ts : Array TypeId} {f : FuncId} {caps ivs : List AV} {o1 o2 : List Bool} {r : AV} {H0 H2 : List AObj} {Ei : Env} (s : List Nat)
    (hop : o.op = .call ⟨.value fo, args, ts⟩) (hg : o.guard = none) (hH : handL s H s = some H0) (hn : nodupB s = true) (hfo : handCallee T s H Ei fo = some (f, caps, o1)) (hargs : handArgs T s H Ei args.toList = some (ivs, o2)) (ho : allTrue (o1 ++ o2))
    (hc : AFnH C.P f (ivs ++ caps) H0 r H2) (hpl : (plA r ∧ plH H2) ∨ (allUn s Ei args.toList = true)) (hbk : backOk s r H2 = true) (hN : match o.dst with | some d => Nat.blt d C.N = true | none => True) :
    OpStep C all o Ei H (renA (selx s H.length H2.length) r) (backH s H H2) := by
  intro env hsub K Q hK a w hst
  obtain ⟨hd, I, X, hrel⟩ := hst
  rw [allTrue_append] at ho
  have hwant : Region.wanted o (yielded all.toArray a.tmps) = true := by unfold Region.wanted; rw [hg]
  rw [if_pos hwant]
  refine .inl (handCall_core s hrel hsub hop hH hn hfo ho.1 hargs ho.2 hc (hpl.imp (fun h r' H' ⟨h1, h2⟩ => by rw [h1, h2]; exact h) id) (fun r' H' ⟨h1, h2⟩ => by rw [h1, h2]; exact hbk) ?_)
  rintro _ _ v w' J X'' ⟨rfl, rfl⟩ e3 e4 e5
  refine hK _ _ ⟨by rw [(put_tmps a o.dst v).2]; exact hd, J, X'', ?_⟩
  rw [(put_tmps a o.dst v).1]
  refine dput_rel e3 e4 e5 ?_
  cases hod : o.dst with
  | none => rfl
  | some d => rw [hod] at hN; simp only at hN; simp [dput, hN, dcons]

/-! ### what a function that was handed objects tells -/
def flat : AObj → Bool
  | .box _ cells => refsAll (fun _ _ => false) cells
  | _ => true

def selF (H : List AObj) : List Nat → List AObj → Prop
  | [], l => l = []
  | i :: s, l => ∃ o l' o', l = o' :: l' ∧ H[i]? = some o ∧ flat o = true ∧ objEq o o' ∧ selF H s l'

theorem selF_get : ∀ {s : List Nat} {l : List AObj}, selF H s l → l.length = s.length ∧ ∀ k o', l[k]? = some o' → ∃ o, H[s.getD k 0]? = some o ∧ flat o = true ∧ objEq o o'
  | [], l, h => by simp only [selF] at h; subst h; exact ⟨rfl, fun k o h => by simp at h⟩
  | i :: s, l, h => by
    obtain ⟨o, l', o', rfl, h1, h2, h3, h4⟩ := h
    obtain ⟨h5, h6⟩ := selF_get h4
    refine ⟨by simp [h5], fun k o2 hk => ?_⟩
    cases k with
    | zero => simp at hk; subst hk; exact ⟨o, by simpa using h1, h2, h3⟩
    | succ k => simpa using h6 k o2 (by simpa using hk)

/-- the first ones stay where they are -/
def startsAt : Nat → Nat → List Nat → Bool
  | _, 0, _ => true
  | k, n + 1, i :: s => match Nat.beq i k with | true => startsAt (k + 1) n s | false => false
  | _, _ + 1, [] => false

theorem startsAt_get : ∀ {n : Nat} {s : List Nat} {k i : Nat}, startsAt k n s = true → i < n → i < s.length ∧ s.getD i 0 = k + i
  | n + 1, a :: s, k, i, h, hi => by
    simp only [startsAt] at h
    split at h
    · rename_i hb
      cases i with
      | zero => exact ⟨by simp, by simpa using Nat.eq_of_beq_eq_true hb⟩
      | succ i =>
        obtain ⟨h1, h2⟩ := startsAt_get h (show i < n by omega)
        exact ⟨by simpa using h1, by simp only [List.getD_cons_succ, h2]; omega⟩
    · cases h

theorem orel_flat {len len' id id' : Nat} {o o' : AObj} (hX : ∀ row, X'.val id' row = X.val id row) (hn : flat o = true) (he : objEq o o') (h : orel P I w X len id o) : orel P I w X' len' id' o' := by
  cases o with
  | box t cells =>
    cases o' <;> simp only [objEq] at he <;> cases he
    obtain ⟨b, cs, h1, h2, h3, h4, _⟩ := h
    exact ⟨b, cs, by rw [hX]; exact h1, h2, arelAll_congr (p := fun _ _ => false) (fun _ _ h => by cases h) _ _ hn h3, h4, refsAll_mono (fun _ _ h => by cases h) _ hn⟩
  | dead => exact orel_noRefs hX rfl he h
  | arr fx t s n f => exact orel_noRefs hX rfl he h
  | arr2 fx t tr sr n g hole => exact orel_noRefs hX rfl he h
  | map k et card dom val => exact orel_noRefs hX rfl he h

theorem Ret.projectH {H0 : List AObj} {I' : Nat → Prop} {v : Value} {r r' : AV} {Q Q' : AV → List AObj → Prop} (h : Ret P H0 Q I X w v w' r H' I' X') {s : List Nat} {H2 : List AObj} (hr : renA s r' = r) (hs : selF H' s H2) (hn : nodupB s = true) (hrefs : Go.AM.refs (below s.length) r' = true) (h0 : startsAt 0 H0.length s = true) (hq : Q' r' H2) :
    ∃ r H2 X', Ret P H0 Q' I X w v w' r H2 I' X' := by
  obtain ⟨hlen, hget⟩ := selF_get hs
  let X2 : Hd := ⟨fun id row => X'.val (s.getD id 0) row⟩
  have hlive : ∀ id row, live H2 id row → id < s.length ∧ live H' (s.getD id 0) row := by
    intro id row hl
    unfold live at hl
    cases ho : H2[id]? with
    | none => rw [ho] at hl; exact hl.elim
    | some o' =>
      rw [ho] at hl
      obtain ⟨o, h1, h2, h3⟩ := hget id o' ho
      refine ⟨by rw [← hlen]; exact (List.getElem?_eq_some_iff.1 ho).1, ?_⟩
      unfold live
      rw [h1]
      exact (objEq_live h3 row).1 hl
  refine ⟨r', H2, X2, hq, arel_ren (X' := X2) (fun _ _ => rfl) _ _ (hr ▸ h.rel), by rw [hlen]; exact hrefs, ⟨fun id o' ho' => ?_, fun id row id' row' b h1 h2 h3 h4 => ?_, fun id row b h1 h2 => ?_⟩, h.sub, h.sup, h.ilt, fun id row b h1 h2 => ?_, h.keep, fun k o hk hf => ?_⟩
  · obtain ⟨o, h1, h2, h3⟩ := hget id o' ho'
    exact orel_flat (X' := X2) (X := X') (id := s.getD id 0) (fun _ => rfl) h2 h3 (h.hok.obj _ o h1)
  · obtain ⟨g1, g2⟩ := hlive _ _ h1
    obtain ⟨g3, g4⟩ := hlive _ _ h2
    obtain ⟨e1, e2⟩ := h.hok.inj _ _ _ _ b g2 g4 h3 h4
    exact ⟨nodupB_get hn _ _ g1 g3 e1, e2⟩
  · exact h.hok.off _ row b (hlive _ _ h1).2 h2
  · exact h.own _ row b (hlive _ _ h1).2 h2
  · have hkl := (List.getElem?_eq_some_iff.1 hk).1
    obtain ⟨e1, e2⟩ := startsAt_get h0 hkl
    rw [Nat.zero_add] at e2
    obtain ⟨⟨o', g1, g2⟩, g3⟩ := h.fx k o hk hf
    have hk2 : k < H2.length := by omega
    obtain ⟨o1, f1, f2, f3⟩ := hget k H2[k] (List.getElem?_eq_getElem hk2)
    rw [e2, g1] at f1
    cases f1
    refine ⟨⟨_, List.getElem?_eq_getElem hk2, by rw [objEq_fixed f3]; exact g2⟩, ?_⟩
    show X'.val (s.getD k 0) none = _
    rw [e2]; exact g3

def TellsH (n : Nat) (r : AV) (H : List AObj) (r' : AV) (H2 : List AObj) : Prop := ∃ s : List Nat, renA s r' = r ∧ selF H s H2 ∧ nodupB s = true ∧ refs (below s.length) r' = true ∧ startsAt 0 n s = true

theorem ACalls.toldH {f : FuncId} {args : List AV} {H0 : List AObj} {Q Q' : AV → List AObj → Prop} (h : ACalls P f args H0 Q) (hq : ∀ r H', Q r H' → ∃ r' H2, TellsH H0.length r H' r' H2 ∧ Q' r' H2) : ACalls P f args H0 Q' :=
  ⟨h.1, fun w vs I X h1 h2 h3 h4 => (h.2 w vs I X h1 h2 h3 h4).mono fun _ _ ⟨v, r, H', I', X', he, hr⟩ => by
    obtain ⟨r', H2, ⟨s, g1, g2, g3, g4, g5⟩, g6⟩ := hq _ _ hr.q
    obtain ⟨r3, H3, X3, h5⟩ := hr.projectH g1 g2 g3 g4 g5 g6
    exact ⟨v, r3, H3, I', X3, he, h5⟩⟩

/-- **the contract of a function that is handed objects, from its body** -/
theorem AFnH.of_body (hT : TTok P T) {f : FuncId} {fn : Func} {c : Code} {l : List ResultVar} {args : List AV} {r : AV} {H0 H2 : List AObj} (N : Nat) (hf : P.funcs[f]? = some fn) (hb : fn.body = some c) (hl : fn.results = l.toArray)
    (hN : fn.ntmps = N) (ha : args.length ≤ N) (hname : (fn.name == "runtime.NumGoroutine") = false)
    (h : ∀ C : Ctx, C.P = P → C.N = N → TTok C.P T → (∀ k, C.fx k = true → k < H0.length) → AWp C c (EndsIn T l (fun r' H' => TellsH H0.length r' H' r H2)) (argEnv 0 args) H0) : AFnH P f args H0 r H2 :=
  ACalls.toldH (acalls_of_body hT N hf hb hl hN ha hname h) (fun _ _ ht => ⟨r, H2, ht, rfl, rfl⟩)

end Go.AM

namespace Go.AM
open Go.RowKit

variable {C : Ctx} {env env' : Env} {H H' : List AObj} {I : Nat → Prop} {X X' : Hd} {tmps : Array Value} {w w' : World} {P : Program} {T : TT}

/-- a guarded call in a drawn region, nothing new behind it -/
theorem OpStep.of_callG {all : List Oper} {o : Oper} {fo : Operand} {args : Array Operand} {ts : Array TypeId} {f : FuncId} {caps ivs : List IV} {o1 o2 : List Bool} {r : IV} {b : Bool} {Ei : Env}
    (hop : o.op = .call ⟨.value fo, args, ts⟩) (hg : guardOf all Ei o = some (some b)) (hfo : calleeOf T H Ei fo = some (f, caps, o1)) (hcn : caps.all notAgg = true) (hargs : lowArgs T H Ei args.toList = some (ivs, o2)) (ho : b = true → allTrue (o1 ++ o2))
    (hc : b = true → AFn C.P f (ivs ++ caps) (.i r) []) (hpl : plI r ∨ (allImmOps Ei (fo :: args.toList) = true)) (hN : match o.dst with | some d => Nat.blt d C.N = true | none => True) : OpStep C all o Ei H (.opt b (.i r)) H := by
  intro env hsub K Q hK a w hst
  obtain ⟨hd, I, X, hrel⟩ := hst
  have hwant := (guardOf_sound (hrel.subEnv hsub) (all := all) (o := o)).2 b hg
  have hdp : ∀ v, dput C.N o.dst v env = some (dcons o.dst v env) := by
    intro v
    cases hod : o.dst with
    | none => rfl
    | some d => rw [hod] at hN; simp only at hN; simp [dput, hN, dcons]
  cases b with
  | true =>
    rw [if_pos hwant]
    have ho := ho rfl
    rw [allTrue_append] at ho
    refine .inl (call_core hrel hsub hop hfo ho.1 hcn hargs ho.2 (hc rfl) (hpl.imp (fun h r' H' ⟨h1, h2⟩ => by rw [h1, h2]; exact ⟨h, trivial⟩) id) ?_)
    rintro _ _ v w' J X'' ⟨rfl, rfl⟩ e3 e4 e5
    simp only [shH, List.append_nil] at e3 e5
    refine hK _ _ ⟨by rw [(put_tmps a o.dst v).2]; exact hd, J, X'', ?_⟩
    rw [(put_tmps a o.dst v).1]
    exact dput_rel e3 (show arel J w' X'' (.opt true (.i r)) v from ⟨fun _ => e4, fun h => by cases h⟩) e5 (hdp _)
  | false =>
    rw [if_neg (by rw [hwant]; simp)]
    refine hK _ _ ⟨by rw [(put_tmps a o.dst undef).2]; exact hd, I, X, ?_⟩
    rw [(put_tmps a o.dst undef).1]
    exact dput_rel hrel (rel_undef false rfl _) rfl (hdp _)

theorem objEq_mapU {α : Type} {enc : α → IV} {k : IntKind} {et : TypeId} {c : Nat} {d : Int → Bool} {y : Int} {e : α} {f : Int → α} :
    objEq (.map k et c d (fun z => if z = y then enc e else enc (f z))) (.map k et c d (fun z => enc (if z = y then e else f z))) :=
  ⟨rfl, rfl, rfl, fun z => ⟨rfl, by show (if z = y then enc e else enc (f z)) = enc (if z = y then e else f z); split <;> rfl⟩⟩

end Go.AM

namespace Go.AM
open Go.RowKit

variable {C : Ctx} {env env' : Env} {H H' : List AObj} {I : Nat → Prop} {X X' : Hd} {tmps : Array Value} {w w' : World} {P : Program} {T : TT}

/-! ### other numbers for the objects -/
def SubR (s : List Nat) (env env' : Env) : Prop := ∀ k v, get env' k = some v → get env k = some (renA s v)

theorem SubR.nil {s : List Nat} : SubR s env [] := fun k v h => by simp [get] at h
theorem SubR.cons {s : List Nat} {k : Nat} {v : AV} {r : Env} (h : get env k = some (renA s v)) (hr : SubR s env r) : SubR s env ((k, v) :: r) := by
  intro k' v' hk
  rw [get_cons] at hk
  split at hk
  · rename_i e; subst e; cases hk; exact h
  · exact hr k' v' hk

inductive ObjRn (S : List Nat) : AObj → AObj → Prop
  | flat {o o' : AObj} (h : flat o = true) (he : objEq o o') : ObjRn S o o'
  | box {t : TypeId} {cells cells' : List AV} (h : renL S cells' = cells) (hr : refsAll (below S.length) cells' = true) : ObjRn S (.box t cells) (.box t cells')

inductive HRn (S : List Nat) (H : List AObj) : List Nat → List AObj → Prop
  | nil : HRn S H [] []
  | cons {i : Nat} {s : List Nat} {o o' : AObj} {l : List AObj} (h : H[i]? = some o) (ho : ObjRn S o o') (hl : HRn S H s l) : HRn S H (i :: s) (o' :: l)

theorem ObjRn.live {S : List Nat} {o o' : AObj} (h : ObjRn S o o') (row : Option Nat) : liveObj o' row ↔ liveObj o row := by
  cases h with
  | flat _ he => exact objEq_live he row
  | box _ _ => exact Iff.rfl
theorem ObjRn.fixed {S : List Nat} {o o' : AObj} (h : ObjRn S o o') : fixedObj o' = fixedObj o := by
  cases h with
  | flat _ he => exact objEq_fixed he
  | box _ _ => rfl
theorem ObjRn.orel {S : List Nat} {o o' : AObj} {len k : Nat} (h : ObjRn S o o') (ho : orel P I w X len (S.getD k 0) o) : Go.AM.orel P I w ⟨fun id row => X.val (S.getD id 0) row⟩ S.length k o' := by
  cases h with
  | flat hf he => exact orel_flat (id := S.getD k 0) (fun _ => rfl) hf he ho
  | box hc hr =>
    obtain ⟨b, cs, h1, h2, h3, h4, _⟩ := ho
    exact ⟨b, cs, h1, h2, arelAll_ren (fun _ _ => rfl) _ _ (hc ▸ h3), h4, hr⟩

theorem HRn.get {S : List Nat} {s : List Nat} {l : List AObj} (h : HRn S H s l) : l.length = s.length ∧ ∀ k o', l[k]? = some o' → ∃ o, H[s.getD k 0]? = some o ∧ ObjRn S o o' := by
  induction h with
  | nil => exact ⟨rfl, fun k o h => by simp at h⟩
  | cons h1 h2 _ ih =>
    refine ⟨by simp [ih.1], fun k o2 hk => ?_⟩
    cases k with
    | zero => simp at hk; subst hk; exact ⟨_, by simpa using h1, h2⟩
    | succ k => simpa using ih.2 k o2 (by simpa using hk)

structure RN (C : Ctx) (env : Env) (H : List AObj) (s : List Nat) (env' : Env) (H' : List AObj) : Prop where
  sub : SubR s env env'
  objs : HRn s H s H'
  nd : nodupB s = true
  re : refsEnv s.length env' = true
  n : ∃ n, startsAt 0 n s = true ∧ ∀ k, C.fx k = true → k < n

theorem Rel.rename (h : Rel C env H I X tmps w) {s : List Nat} (hr : RN C env H s env' H') : Rel C env' H' I ⟨fun id row => X.val (s.getD id 0) row⟩ tmps w := by
  obtain ⟨hlen, hget⟩ := hr.objs.get
  have hlive : ∀ id row, live H' id row → id < s.length ∧ live H (s.getD id 0) row := by
    intro id row hl
    unfold live at hl
    cases ho : H'[id]? with
    | none => rw [ho] at hl; exact hl.elim
    | some o' =>
      rw [ho] at hl
      obtain ⟨o, h1, h2⟩ := hget id o' ho
      refine ⟨by rw [← hlen]; exact (List.getElem?_eq_some_iff.1 ho).1, ?_⟩
      unfold live
      rw [h1]
      exact (h2.live row).1 hl
  refine ⟨h.size, fun k v hk => ?_, ⟨fun id o' ho' => ?_, fun id row id' row' b h1 h2 h3 h4 => ?_, fun id row b h1 h2 => ?_⟩, h.sub, h.sup, h.ilt, fun id row b h1 h2 => ?_, h.keep, fun k hk => ?_⟩
  · obtain ⟨a, _, c⟩ := h.env k _ (hr.sub k v hk)
    exact ⟨a, by rw [hlen]; exact refsEnv_get hr.re hk, arel_ren (fun _ _ => rfl) _ _ c⟩
  · obtain ⟨o, h1, h2⟩ := hget id o' ho'
    rw [hlen]
    exact h2.orel (h.hok.obj _ o h1)
  · obtain ⟨g1, g2⟩ := hlive _ _ h1
    obtain ⟨g3, g4⟩ := hlive _ _ h2
    obtain ⟨e1, e2⟩ := h.hok.inj _ _ _ _ b g2 g4 h3 h4
    exact ⟨nodupB_get hr.nd _ _ g1 g3 e1, e2⟩
  · exact h.hok.off _ row b (hlive _ _ h1).2 h2
  · exact h.own _ row b (hlive _ _ h1).2 h2
  · obtain ⟨n, hn, hfx⟩ := hr.n
    obtain ⟨e1, e2⟩ := startsAt_get hn (hfx k hk)
    rw [Nat.zero_add] at e2
    obtain ⟨⟨o, h1, h2⟩, h3⟩ := h.hfx k hk
    have hk2 : k < H'.length := by omega
    obtain ⟨o1, f1, f2⟩ := hget k H'[k] (List.getElem?_eq_getElem hk2)
    rw [e2, h1] at f1
    cases f1
    refine ⟨⟨_, List.getElem?_eq_getElem hk2, by rw [f2.fixed]; exact h2⟩, ?_⟩
    show X.val (s.getD k 0) none = _
    rw [e2]; exact h3

theorem St.rename {a : Act} (h : St C env H a w) {s : List Nat} (hr : RN C env H s env' H') : St C env' H' a w := by
  obtain ⟨hd, I, X, h⟩ := h
  exact ⟨hd, I, _, h.rename hr⟩

theorem AWp.rn {c : Code} {Q : Post} (s : List Nat) (hr : RN C env H s env' H') (h : AWp C c Q env' H') : AWp C c Q env H := fun a w hst => h a w (hst.rename hr)
theorem AOps.rn {all rest : List Oper} {Q : Post} (s : List Nat) (hr : RN C env H s env' H') (h : AOps C all rest Q env' H') : AOps C all rest Q env H := fun a w hst => h a w (hst.rename hr)

/-- **A loop** whose rounds lay new objects in the place of old ones. -/
theorem AWp.loopR {σ : Type} {c : Code} {Q : Post} (μ : σ → Nat) (S : σ → Env) (HS : σ → List AObj) (J : σ → Prop) (s0 : σ) (r0 : List Nat) (h0 : RN C env H r0 (S s0) (HS s0)) (j0 : J s0)
    (hstep : ∀ s, J s → AWp C c (Post.then (fun env' H' => ∃ s', (μ s' < μ s ∧ J s') ∧ ∃ r, RN C env' H' r (S s') (HS s')) Q) (S s) (HS s)) : AWp C (.loop c) Q env H := by
  refine AWp.rn r0 h0 (AWp.loop (fun n env H => ∃ s, μ s = n ∧ J s ∧ ∀ a w, St C env H a w → St C (S s) (HS s) a w) (n := μ s0) ⟨s0, rfl, j0, fun _ _ h => h⟩ ?_)
  rintro n env H ⟨s, rfl, hj, himp⟩ a w hst
  refine (wp_mono (hstep s hj a w (himp a w hst)) ?_)
  rintro e a w ⟨env', H', hq, hst'⟩
  refine ⟨env', H', ?_, hst'⟩
  cases e with
  | normal =>
    obtain ⟨s', ⟨hm, hj'⟩, r, hrn⟩ := hq
    exact ⟨μ s', hm, s', rfl, hj', fun a w h => h.rename hrn⟩
  | exit id => exact hq
  | goto l => exact hq
  | ret => exact hq
  | panic c => exact hq
  | outgrown => exact hq

end Go.AM

namespace Go.AM
open Go.RowKit

variable {C : Ctx} {env env' : Env} {H H' : List AObj} {I : Nat → Prop} {X X' : Hd} {tmps : Array Value} {w w' : World} {P : Program} {T : TT}

/-! ### an owned list that is handed back, as immutable data -/
theorem ACalls.freeze {f : FuncId} {ivs : List IV} {r r' : AV} {H1 : List AObj} (h : AFnH P f (ivs.map .i) [] r H1)
    (hr : ∀ I w X v, HOk P I w X H1 → arel I w X r v → arel (fun b => I b ∨ ownSet H1 X b) w X r' v) (hrefs : Go.AM.refs (below 0) r' = true) : AFn P f ivs r' [] :=
  ⟨h.1, fun w vs I X h1 h2 h3 h4 => (h.2 w vs I X h1 h2 h3 h4).mono fun _ _ ⟨v, r0, H', I', X', he, hret⟩ => by
    obtain ⟨e1, e2⟩ := hret.q
    subst e1; subst e2
    refine ⟨v, r', [], fun b => I' b ∨ ownSet H' X' b, X', he, ⟨rfl, rfl⟩, hr _ _ _ _ hret.hok hret.rel, hrefs, ⟨fun id o h => by simp at h, fun id row _ _ _ h => by simp [live] at h, fun id row _ h => by simp [live] at h⟩, fun b hb => .inl (hret.sub b hb), ?_, ?_, fun id row b h => by simp [live] at h, hret.keep, fun k o hk => by simp at hk⟩
    · rintro b (hb | ⟨id, row, g1, g2⟩)
      · exact hret.sup b hb
      · rcases hret.own id row b g1 g2 with ⟨id', row', g3, _⟩ | g3
        · simp [live] at g3
        · exact .inr g3
    · rintro b (hb | ⟨id, row, g1, g2⟩)
      · exact hret.ilt b hb
      · exact blk_lt_of_orel hret.hok g1 g2⟩

theorem AFn.freeze1 {f : FuncId} {ivs : List IV} {fx : Bool} {t s n : Nat} {g : Nat → IV} (h : AFn P f ivs (.osl 0 none) [.arr fx t s n g]) : AFn P f ivs (.i (.sl s false n g)) [] :=
  ACalls.freeze h (fun _ _ _ _ hok hv => low_sound (T := []) hok 6 _ _ _ [] hv rfl trivial) rfl
theorem AFn.freeze2 {f : FuncId} {ivs : List IV} {fx : Bool} {t s n : Nat} {g : Nat → IV} {e : IV} (h : AFn P f ivs (.tup [.osl 0 none, .i e]) [.arr fx t s n g]) : AFn P f ivs (.tup [.i (.sl s false n g), .i e]) [] :=
  ACalls.freeze h (fun I w X v hok hv => by
    obtain ⟨cs, h1, a, r, h2, h3, b, r2, h4, h5, h6⟩ := hv
    exact ⟨cs, h1, a, r, h2, low_sound (T := []) hok 6 _ _ _ [] h3 rfl trivial, b, r2, h4, arel_mono (fun _ h => .inl h) (fun _ _ => rfl) _ _ h5, h6⟩) rfl

/-! ### the same argument in other words -/
theorem AFn.congr {f : FuncId} {ivs ivs' : List IV} {r : AV} {H1 : List AObj} (h : AFn P f ivs r H1) (hc : ∀ I w X vs, arelAll I w X (ivs'.map .i) vs → arelAll I w X (ivs.map .i) vs) : AFn P f ivs' r H1 :=
  ⟨h.1, fun w vs I X h1 h2 h3 _ => h.2 w vs I X h1 h2 (hc I w X vs h3) (refsAll_i _)⟩

theorem irel_sl {s n n' : Nat} {ex : Bool} {g g' : Nat → IV} {x : Value} (hn : n = n') (hg : ∀ j, j < n → g j = g' j) (h : irel I w (.sl s ex n g) x) : irel I w (.sl s ex n' g') x := by
  subst hn
  obtain ⟨a, cap, h1, h2, h3, h4⟩ := h
  refine ⟨a, cap, h1, h2, h3, ?_⟩
  rcases h4 with h4 | ⟨b, o, h5, h6, h7⟩
  · exact .inl h4
  · refine .inr ⟨b, o, h5, h6, fun j hj => ?_⟩
    rw [← hg j hj]; exact h7 j hj

end Go.AM

