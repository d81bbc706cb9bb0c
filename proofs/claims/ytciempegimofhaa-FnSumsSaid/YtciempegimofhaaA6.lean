/- Contracts of functions of the program, for the claims of this seat. -/
import Derived.Test.YtciempegimofhaaA5
set_option linter.unusedSectionVars false
set_option linter.unusedSimpArgs false
set_option linter.unusedVariables false
set_option linter.unnecessarySimpa false
namespace Go.AMA
open Go.AM
abbrev nilB : Nat → IV := fun j => cb (([] : List Bool).getD j default)
abbrev oB (l : List Bool) : AObj := olist 4 1 cb l
abbrev hB (l : List Bool) : AObj := .arr true 4 1 l.length (fun j => cb (l.getD j default))
def mkB (j : Nat) : Bool := (1 + (j : Int)).tmod 3 == 0
theorem objEq_repB {n : Nat} : objEq (.arr false 4 1 n (fun _ => .c (.bool false))) (oB (List.replicate n default)) := ⟨rfl, rfl, rfl, by simp, fun j hj => by simp [List.getD, hj]; rfl⟩
theorem rmap_idB (l : List Bool) : rmap (fun i => l.getD i default) l.length = l := by
  apply List.ext_getElem
  · simp
  · intro i h1 h2; simp [rmap, h2]
theorem markB_step {l m : List Bool} {x : Int} (h0 : 0 ≤ x) (hc0 : x < m.length) (h2 : m.length = l.length) (h3 : m = rmap mkB x.toNat ++ l.drop x.toNat) :
    m.set x.toNat ((1 + x).tmod 3 == 0) = rmap mkB (x + 1).toNat ++ l.drop (x + 1).toNat := by
  rw [show ((1 + x).tmod 3 == 0) = mkB x.toNat by unfold mkB; rw [show ((x.toNat : Nat) : Int) = x by omega], h3, mark_set _ _ (by omega), show (x + 1).toNat = x.toNat + 1 by omega]
def ansGo (p : Int × Int) : Nat → Int → List (Int × Int) → List Bool → Option (List Bool)
  | 0, _, _, _ => none
  | n + 1, i, l, out => if knows l p (i.tmod 2 == 0) = true then some (out ++ [knows l p (i.tmod 2 == 0)]) else ansGo p n (i + 1) (aft l (i.tmod 2 == 0) false) (out ++ [knows l p (i.tmod 2 == 0)])
def ansF (most : Int) (p : Int × Int) : Option (List Bool) := if pairOk p = true ∧ has (allP most) p = true then ansGo p 100 0 (allP most) [] else none
theorem ansGo_step {p : Int × Int} {i : Int} {l : List (Int × Int)} {out : List Bool} (h0 : 0 ≤ i) (h1 : i < 100) : ansGo p (100 - i).toNat i l out = if knows l p (i.tmod 2 == 0) = true then some (out ++ [knows l p (i.tmod 2 == 0)]) else ansGo p (100 - (i + 1)).toNat (i + 1) (aft l (i.tmod 2 == 0) false) (out ++ [knows l p (i.tmod 2 == 0)]) := by
  rw [show (100 - i).toNat = (100 - (i + 1)).toNat + 1 by omega]; rfl
theorem ansGo_len {p : Int × Int} : ∀ (n : Nat) (i : Int) (l : List (Int × Int)) (out o : List Bool), ansGo p n i l out = some o → o.length ≤ out.length + n
  | 0, _, _, _, _, h => by cases h
  | n + 1, i, l, out, o, h => by
    simp only [ansGo] at h
    split at h
    · cases h; simp
    · have := ansGo_len n _ _ _ _ h
      simp at this; omega
def ansL (most : Int) (p : Int × Int) : List Bool := (ansF most p).getD []
theorem ansL_len (most : Int) (p : Int × Int) : (ansL most p).length ≤ 100 := by
  unfold ansL ansF
  split
  · cases h : ansGo p 100 0 (allP most) [] with
    | none => simp
    | some o => have := ansGo_len _ _ _ _ _ h; simpa using this
  · simp
def leftGo : Int → List (Int × Int) → List Bool → List (Int × Int)
  | _, l, [] => l
  | i, l, b :: r => leftGo (i + 1) (aft l (i.tmod 2 == 0) b) r
def leftF (most : Int) (bs : List Bool) : List (Int × Int) := if bs.length ≤ 100 then leftGo 0 (allP most) bs else []
theorem leftGo_step {i : Int} {l : List (Int × Int)} {bs : List Bool} (h0 : 0 ≤ i) (h1 : i < bs.length) : leftGo i l (bs.drop i.toNat) = leftGo (i + 1) (aft l (i.tmod 2 == 0) (bs.getD i.toNat default)) (bs.drop (i + 1).toNat) := by
  have hx : i.toNat < bs.length := by omega
  rw [List.drop_eq_getElem_cons hx, leftGo, show (i + 1).toNat = i.toNat + 1 by omega]
  simp [hx]
theorem leftGo_nil : ∀ (i : Int) (bs : List Bool), leftGo i [] bs = []
  | _, [] => rfl
  | i, b :: r => by rw [leftGo]; exact leftGo_nil _ r
theorem leftGo_len : ∀ (i : Int) (l : List (Int × Int)) (bs : List Bool), (leftGo i l bs).length ≤ l.length
  | _, _, [] => Nat.le_refl _
  | i, l, b :: r => Nat.le_trans (leftGo_len _ _ r) (List.length_filter_le _ _)
theorem leftF_len (most : Int) (bs : List Bool) : (leftF most bs).length ≤ 1048576 := by
  unfold leftF
  split
  · exact Nat.le_trans (leftGo_len _ _ _) (allP_len most)
  · simp
theorem aft_len {l : List (Int × Int)} {f k : Bool} (h : l.length ≤ 1048576) : (aft l f k).length ≤ 1048576 := filter_len h
theorem left_nil {most : Int} {bs : List Bool} (h : (bif (((allP most).length : Nat) : Int) == 0 then true else decide (((bs.length : Nat) : Int) > 100)) = true) (hle : bs.length ≤ 100) : allP most = [] := by
  cases h2 : (((allP most).length : Nat) : Int) == 0 with
  | true => simpa using h2
  | false => rw [h2] at h; simp at h; omega
theorem left_le {most : Int} {bs : List Bool} (h : (bif (((allP most).length : Nat) : Int) == 0 then true else decide (((bs.length : Nat) : Int) > 100)) = false) : bs.length ≤ 100 := by
  cases h2 : (((allP most).length : Nat) : Int) == 0 with
  | true => rw [h2] at h; cases h
  | false => rw [h2] at h; simp at h; omega
theorem bne_self_b (b : Bool) : (b != b) = false := by cases b <;> rfl


set_option maxRecDepth 20000 in
theorem eqBoolS_fn (l : List Bool) (hl : l.length ≤ 1048576) : AFn P 71 [lB l, lB l] (.i (cb true)) [] := by
  refine AFn.of_body Tok 26 Go.Proofs.Try.func71 rfl rfl rfl (by simp) rfl ?_
  rintro ⟨_, _, w0, I0, O0, X0, fx⟩ rfl rfl hT hfx
  refine AWp.seq ?_
  refine AWp.region ?_
  refine AOps.run hT true rfl ?_ ?_
  · repeat' (first | exact trivial | exact Bool.not_or_self _ | refine And.intro ?_ ?_ | (simp; done) | (simp_all; done) | (simp [inR_i64] at *; omega))
  refine AOps.nil ?_
  repeat (with_reducible first | refine thenNil ?_ | refine blockNil ?_)
  refine AWp.seq ?_
  refine AWp.seq ?_
  refine AWp.region ?_
  refine AOps.run hT true rfl ?_ ?_
  · repeat' (first | exact trivial | exact Bool.not_or_self _ | refine And.intro ?_ ?_ | (simp; done) | (simp_all; done) | (simp [inR_i64] at *; omega))
  refine AOps.nil ?_
  repeat (with_reducible first | refine thenNil ?_ | refine blockNil ?_)
  refine AWp.cond rfl ?_ (fun hc0 => ?_) (fun hc0 => ?_)
  · repeat' (first | exact trivial | exact Bool.not_or_self _ | refine And.intro ?_ ?_ | (simp; done) | (simp_all; done) | (simp [inR_i64] at *; omega))
  · simp at hc0
  · try simp only [decide_eq_true_eq, decide_eq_false_iff_not] at hc0
    refine AWp.skip ?_
    repeat (with_reducible first | refine thenNil ?_ | refine blockNil ?_)
    refine AWp.seq ?_
    refine AWp.seq ?_
    refine AWp.region ?_
    refine AOps.run hT true rfl ?_ ?_
    · repeat' (first | exact trivial | exact Bool.not_or_self _ | refine And.intro ?_ ?_ | (simp; done) | (simp_all; done) | (simp [inR_i64] at *; omega))
    refine AOps.nil ?_
    repeat (with_reducible first | refine thenNil ?_ | refine blockNil ?_)
    refine AWp.block ?_
    refine AWp.loopS (σ := Int) (fun x => (l.length - x).toNat) (fun x => [(0, .i (lB l)), (1, .i (lB l)), (5, .i (ci x))]) (fun _ => []) (fun x => 0 ≤ x ∧ x ≤ l.length) (0) ?_ ?_ ?_
    · refine ⟨?_, ?_, rfl, rfl, fun k hk => Nat.lt_of_lt_of_le (hfx k hk) (Nat.le_of_ble_eq_true rfl)⟩
      · repeat' (first | exact Sub.nil | exact rfl | refine Sub.cons ?_ ?_)
      · repeat' (first | exact HTr.nil | exact objEq_refl _ | exact objEq_app1 | exact objEq_nil | exact objEq_mapP | exact objEq_mapI |  exact objEq_set (by first | omega | (simp; omega)) | exact objEq_appS (by simp) (appF_S rfl (fun _ _ => rfl)) | refine HTr.cons ?_ ?_ | refine HTr.dead rfl ?_)
    · exact ⟨by omega, by omega⟩
    rintro x ⟨h0, h1⟩
    refine AWp.seq ?_
    refine AWp.seq ?_
    refine AWp.region ?_
    refine AOps.run hT true rfl ?_ ?_
    · repeat' (first | exact trivial | exact Bool.not_or_self _ | refine And.intro ?_ ?_ | (simp; done) | (simp_all; done) | (simp [inR_i64] at *; omega))
    refine AOps.nil ?_
    repeat (with_reducible first | refine thenNil ?_ | refine blockNil ?_)
    refine AWp.cond rfl ?_ (fun hc1 => ?_) (fun hc1 => ?_)
    · repeat' (first | exact trivial | exact Bool.not_or_self _ | refine And.intro ?_ ?_ | (simp; done) | (simp_all; done) | (simp [inR_i64] at *; omega))
    · try simp only [decide_eq_true_eq, decide_eq_false_iff_not] at hc1
      refine AWp.skip ?_
      repeat (with_reducible first | refine thenNil ?_ | refine blockNil ?_)
      refine AWp.seq ?_
      refine AWp.block ?_
      refine AWp.seq ?_
      refine AWp.regionAny mixed [[], [], [0, 1], [0, 1, 2], [], [], [4, 5], [4, 5, 6], [0, 1, 2, 3, 4, 5, 6, 7]] [] [_, _, _, _, _, _, _, _, _] [_] rfl (by decide) rfl ⟨⟨OpStep.of_astep hT (nw := true) rfl ⟨_, rfl, rfl⟩ ?_, trivial⟩, ⟨OpStep.of_astep hT (nw := true) rfl ⟨_, rfl, rfl⟩ ?_, trivial⟩, ⟨OpStep.of_astep hT (nw := true) rfl ⟨_, rfl, rfl⟩ ?_, trivial⟩, ⟨OpStep.of_astep hT (nw := true) rfl ⟨_, rfl, rfl⟩ ?_, trivial⟩, ⟨OpStep.of_astep hT (nw := true) rfl ⟨_, rfl, rfl⟩ ?_, trivial⟩, ⟨OpStep.of_astep hT (nw := true) rfl ⟨_, rfl, rfl⟩ ?_, trivial⟩, ⟨OpStep.of_astep hT (nw := true) rfl ⟨_, rfl, rfl⟩ ?_, trivial⟩, ⟨OpStep.of_astep hT (nw := true) rfl ⟨_, rfl, rfl⟩ ?_, trivial⟩, ⟨OpStep.of_astep hT (nw := true) rfl ⟨_, rfl, rfl⟩ ?_, trivial⟩, trivial⟩ ?_
      · repeat' (first | exact trivial | exact Bool.not_or_self _ | refine And.intro ?_ ?_ | (simp; done) | (simp_all; done) | (simp [inR_i64] at *; omega))
      · repeat' (first | exact trivial | exact Bool.not_or_self _ | refine And.intro ?_ ?_ | (simp; done) | (simp_all; done) | (simp [inR_i64] at *; omega))
      · repeat' (first | exact trivial | exact Bool.not_or_self _ | refine And.intro ?_ ?_ | (simp; done) | (simp_all; done) | (simp [inR_i64] at *; omega))
      · repeat' (first | exact trivial | exact Bool.not_or_self _ | refine And.intro ?_ ?_ | (simp; done) | (simp_all; done) | (simp [inR_i64] at *; omega))
      · repeat' (first | exact trivial | exact Bool.not_or_self _ | refine And.intro ?_ ?_ | (simp; done) | (simp_all; done) | (simp [inR_i64] at *; omega))
      · repeat' (first | exact trivial | exact Bool.not_or_self _ | refine And.intro ?_ ?_ | (simp; done) | (simp_all; done) | (simp [inR_i64] at *; omega))
      · repeat' (first | exact trivial | exact Bool.not_or_self _ | refine And.intro ?_ ?_ | (simp; done) | (simp_all; done) | (simp [inR_i64] at *; omega))
      · repeat' (first | exact trivial | exact Bool.not_or_self _ | refine And.intro ?_ ?_ | (simp; done) | (simp_all; done) | (simp [inR_i64] at *; omega))
      · repeat' (first | exact trivial | exact Bool.not_or_self _ | refine And.intro ?_ ?_ | (simp; done) | (simp_all; done) | (simp [inR_i64] at *; omega))
      repeat (with_reducible first | refine thenNil ?_ | refine blockNil ?_)
      refine AWp.cond rfl ?_ (fun hc2 => ?_) (fun hc2 => ?_)
      · repeat' (first | exact trivial | exact Bool.not_or_self _ | refine And.intro ?_ ?_ | (simp; done) | (simp_all; done) | (simp [inR_i64] at *; omega))
      · simp at hc2
      · try simp only [decide_eq_true_eq, decide_eq_false_iff_not] at hc2
        refine AWp.skip ?_
        repeat (with_reducible first | refine thenNil ?_ | refine blockNil ?_)
        refine AWp.region ?_
        refine AOps.run hT true rfl ?_ ?_
        · repeat' (first | exact trivial | exact Bool.not_or_self _ | refine And.intro ?_ ?_ | (simp; done) | (simp_all; done) | (simp [inR_i64] at *; omega))
        refine AOps.nil ?_
        repeat (with_reducible first | refine thenNil ?_ | refine blockNil ?_)
        refine Exists.intro (x + 1) (And.intro (And.intro ?_ ?_) ?_)
        · simp at *; omega
        · exact ⟨by omega, by omega⟩
        · refine ⟨?_, ?_, rfl, rfl, fun k hk => Nat.lt_of_lt_of_le (hfx k hk) (Nat.le_of_ble_eq_true rfl)⟩
          · repeat' (first | exact Sub.nil | exact rfl | refine Sub.cons ?_ ?_)
          · repeat' (first | exact HTr.nil | exact objEq_refl _ | exact objEq_app1 | exact objEq_nil | exact objEq_mapP | exact objEq_mapI |  exact objEq_set (by first | omega | (simp; omega)) | exact objEq_appS (by simp) (appF_S rfl (fun _ _ => rfl)) | refine HTr.cons ?_ ?_ | refine HTr.dead rfl ?_)
    · try simp only [decide_eq_true_eq, decide_eq_false_iff_not] at hc1
      refine AWp.exit ?_
      repeat (with_reducible first | refine thenExit ?_ | refine blockSame ?_ | refine blockOther rfl ?_ | refine thenNil ?_ | refine blockNil ?_)
      refine AWp.seq ?_
      refine AWp.region ?_
      refine AOps.run hT true rfl ?_ ?_
      · repeat' (first | exact trivial | exact Bool.not_or_self _ | refine And.intro ?_ ?_ | (simp; done) | (simp_all; done) | (simp [inR_i64] at *; omega))
      refine AOps.nil ?_
      repeat (with_reducible first | refine thenNil ?_ | refine blockNil ?_)
      refine AWp.ret ?_
      repeat (with_reducible first | refine thenRet ?_ | refine blockRet ?_)
      refine EndsIn.ret rfl ?_ ?_
      · repeat' (first | exact trivial | exact Bool.not_or_self _ | refine And.intro ?_ ?_ | (simp; done) | (simp_all; done) | (simp [inR_i64] at *; omega))
      refine ⟨[], ?_, rfl, rfl, rfl⟩
      rfl

set_option maxRecDepth 20000 in
theorem markBoolS_fn (l : List Bool) (hl : l.length ≤ 1048576) : AFnH P 72 [.osl 0 none, .i (ci 1)] [hB l] (.i (ci (1 + l.length))) [hB (rmap mkB l.length)] := by
  refine AFnH.of_body Tok 21 Go.Proofs.Try.func72 rfl rfl rfl (by simp) rfl ?_
  rintro ⟨_, _, w0, I0, O0, X0, fx⟩ rfl rfl hT hfx
  refine AWp.seq ?_
  refine AWp.region ?_
  refine AOps.run hT true rfl ?_ ?_
  · repeat' (first | exact trivial | exact Bool.not_or_self _ | refine And.intro ?_ ?_ | (simp; done) | (simp_all; done) | (simp [inR_i64] at *; omega))
  refine AOps.nil ?_
  repeat (with_reducible first | refine thenNil ?_ | refine blockNil ?_)
  refine AWp.seq ?_
  refine AWp.seq ?_
  refine AWp.region ?_
  refine AOps.run hT true rfl ?_ ?_
  · repeat' (first | exact trivial | exact Bool.not_or_self _ | refine And.intro ?_ ?_ | (simp; done) | (simp_all; done) | (simp [inR_i64] at *; omega))
  refine AOps.nil ?_
  repeat (with_reducible first | refine thenNil ?_ | refine blockNil ?_)
  refine AWp.block ?_
  refine AWp.loopS (σ := Int × Int × List Bool) (fun (x, k, m) => (l.length - x).toNat) (fun (x, k, m) => [(0, .osl 0 none), (1, .i (ci k)), (5, .i (ci x))]) (fun (x, k, m) => [hB m]) (fun (x, k, m) => 0 ≤ x ∧ x ≤ l.length ∧ k = 1 + x ∧ m.length = l.length ∧ m = rmap mkB x.toNat ++ l.drop x.toNat) ((0, 1, l)) ?_ ?_ ?_
  · refine ⟨?_, ?_, rfl, rfl, fun k hk => Nat.lt_of_lt_of_le (hfx k hk) (Nat.le_of_ble_eq_true rfl)⟩
    · repeat' (first | exact Sub.nil | exact rfl | refine Sub.cons ?_ ?_)
    · repeat' (first | exact HTr.nil | exact objEq_refl _ | exact objEq_app1 | exact objEq_nil | exact objEq_mapP | exact objEq_mapI |  exact objEq_set (by first | omega | (simp; omega)) | exact objEq_appS (by simp) (appF_S rfl (fun _ _ => rfl)) | refine HTr.cons ?_ ?_ | refine HTr.dead rfl ?_)
  · exact ⟨by omega, by omega, rfl, rfl, (mark_zero mkB l).symm⟩
  rintro ⟨x, k, m⟩ ⟨h0, h1, hk, h2, h3⟩
  refine AWp.seq ?_
  refine AWp.seq ?_
  refine AWp.region ?_
  refine AOps.run hT true rfl ?_ ?_
  · repeat' (first | exact trivial | exact Bool.not_or_self _ | refine And.intro ?_ ?_ | (simp; done) | (simp_all; done) | (simp [inR_i64] at *; omega))
  refine AOps.nil ?_
  repeat (with_reducible first | refine thenNil ?_ | refine blockNil ?_)
  refine AWp.cond rfl ?_ (fun hc0 => ?_) (fun hc0 => ?_)
  · repeat' (first | exact trivial | exact Bool.not_or_self _ | refine And.intro ?_ ?_ | (simp; done) | (simp_all; done) | (simp [inR_i64] at *; omega))
  · try simp only [decide_eq_true_eq, decide_eq_false_iff_not] at hc0
    refine AWp.skip ?_
    repeat (with_reducible first | refine thenNil ?_ | refine blockNil ?_)
    refine AWp.seq ?_
    refine AWp.block ?_
    refine AWp.seq ?_
    refine AWp.region ?_
    refine AOps.run hT true rfl ?_ ?_
    · repeat' (first | exact trivial | exact Bool.not_or_self _ | refine And.intro ?_ ?_ | (simp; done) | (simp_all; done) | (simp [inR_i64] at *; omega))
    refine AOps.nil ?_
    repeat (with_reducible first | refine thenNil ?_ | refine blockNil ?_)
    refine AWp.region ?_
    refine AOps.run hT true rfl ?_ ?_
    · repeat' (first | exact trivial | exact Bool.not_or_self _ | refine And.intro ?_ ?_ | (simp; done) | (simp_all; done) | (simp [inR_i64] at *; omega))
    refine AOps.nil ?_
    repeat (with_reducible first | refine thenNil ?_ | refine blockNil ?_)
    refine AWp.region ?_
    refine AOps.run hT true rfl ?_ ?_
    · repeat' (first | exact trivial | exact Bool.not_or_self _ | refine And.intro ?_ ?_ | (simp; done) | (simp_all; done) | (simp [inR_i64] at *; omega))
    refine AOps.nil ?_
    repeat (with_reducible first | refine thenNil ?_ | refine blockNil ?_)
    refine Exists.intro ((x + 1, k + 1, m.set x.toNat (k.tmod 3 == 0))) (And.intro (And.intro ?_ ?_) ?_)
    · simp at *; omega
    · exact ⟨by omega, by omega, by omega, by simp [h2], by subst hk; exact markB_step h0 hc0 h2 h3⟩
    · refine ⟨?_, ?_, rfl, rfl, fun k hk => Nat.lt_of_lt_of_le (hfx k hk) (Nat.le_of_ble_eq_true rfl)⟩
      · repeat' (first | exact Sub.nil | exact rfl | refine Sub.cons ?_ ?_)
      · repeat' (first | exact HTr.nil | exact objEq_refl _ | exact objEq_app1 | exact objEq_nil | exact objEq_mapP | exact objEq_mapI |  exact objEq_set (by first | omega | (simp; omega)) | exact objEq_appS (by simp) (appF_S rfl (fun _ _ => rfl)) | refine HTr.cons ?_ ?_ | refine HTr.dead rfl ?_)
  · try simp only [decide_eq_true_eq, decide_eq_false_iff_not] at hc0
    refine AWp.exit ?_
    repeat (with_reducible first | refine thenExit ?_ | refine blockSame ?_ | refine blockOther rfl ?_ | refine thenNil ?_ | refine blockNil ?_)
    refine AWp.seq ?_
    refine AWp.region ?_
    refine AOps.run hT true rfl ?_ ?_
    · repeat' (first | exact trivial | exact Bool.not_or_self _ | refine And.intro ?_ ?_ | (simp; done) | (simp_all; done) | (simp [inR_i64] at *; omega))
    refine AOps.nil ?_
    repeat (with_reducible first | refine thenNil ?_ | refine blockNil ?_)
    obtain rfl : k = 1 + (l.length : Int) := by omega
    refine AWp.ret ?_
    repeat (with_reducible first | refine thenRet ?_ | refine blockRet ?_)
    refine EndsIn.ret rfl ?_ ?_
    · repeat' (first | exact trivial | exact Bool.not_or_self _ | refine And.intro ?_ ?_ | (simp; done) | (simp_all; done) | (simp [inR_i64] at *; omega))
    refine ⟨[0], rfl, ⟨_, _, _, rfl, rfl, rfl, ?_, rfl⟩, rfl, rfl, rfl⟩
    rw [show rmap mkB l.length = m by rw [h3, mark_end _ _ (by omega) (by omega)]]
    exact objEq_refl _

set_option maxRecDepth 20000 in
theorem heldBoolS_fn (n : Nat) (hl : n ≤ 1048576) : AFn P 73 [lB (rmap mkB n), ci 1] (.i (ci (1 + n))) [] := by
  refine AFn.of_body Tok 23 Go.Proofs.Try.func73 rfl rfl rfl (by simp) rfl ?_
  rintro ⟨_, _, w0, I0, O0, X0, fx⟩ rfl rfl hT hfx
  refine AWp.seq ?_
  refine AWp.region ?_
  refine AOps.run hT true rfl ?_ ?_
  · repeat' (first | exact trivial | exact Bool.not_or_self _ | refine And.intro ?_ ?_ | (simp; done) | (simp_all; done) | (simp [inR_i64] at *; omega))
  refine AOps.nil ?_
  repeat (with_reducible first | refine thenNil ?_ | refine blockNil ?_)
  refine AWp.seq ?_
  refine AWp.seq ?_
  refine AWp.region ?_
  refine AOps.run hT true rfl ?_ ?_
  · repeat' (first | exact trivial | exact Bool.not_or_self _ | refine And.intro ?_ ?_ | (simp; done) | (simp_all; done) | (simp [inR_i64] at *; omega))
  refine AOps.nil ?_
  repeat (with_reducible first | refine thenNil ?_ | refine blockNil ?_)
  refine AWp.block ?_
  refine AWp.loopS (σ := Int × Int) (fun (x, k) => (n - x).toNat) (fun (x, k) => [(0, .i (lB (rmap mkB n))), (1, .i (ci k)), (5, .i (ci x))]) (fun _ => []) (fun (x, k) => 0 ≤ x ∧ x ≤ n ∧ k = 1 + x) ((0, 1)) ?_ ?_ ?_
  · refine ⟨?_, ?_, rfl, rfl, fun k hk => Nat.lt_of_lt_of_le (hfx k hk) (Nat.le_of_ble_eq_true rfl)⟩
    · repeat' (first | exact Sub.nil | exact rfl | refine Sub.cons ?_ ?_)
    · repeat' (first | exact HTr.nil | exact objEq_refl _ | exact objEq_app1 | exact objEq_nil | exact objEq_mapP | exact objEq_mapI |  exact objEq_set (by first | omega | (simp; omega)) | exact objEq_appS (by simp) (appF_S rfl (fun _ _ => rfl)) | refine HTr.cons ?_ ?_ | refine HTr.dead rfl ?_)
  · exact ⟨by omega, by omega, rfl⟩
  rintro ⟨x, k⟩ ⟨h0, h1, hk⟩
  refine AWp.seq ?_
  refine AWp.seq ?_
  refine AWp.region ?_
  refine AOps.run hT true rfl ?_ ?_
  · repeat' (first | exact trivial | exact Bool.not_or_self _ | refine And.intro ?_ ?_ | (simp; done) | (simp_all; done) | (simp [inR_i64] at *; omega))
  refine AOps.nil ?_
  repeat (with_reducible first | refine thenNil ?_ | refine blockNil ?_)
  refine AWp.cond rfl ?_ (fun hc0 => ?_) (fun hc0 => ?_)
  · repeat' (first | exact trivial | exact Bool.not_or_self _ | refine And.intro ?_ ?_ | (simp; done) | (simp_all; done) | (simp [inR_i64] at *; omega))
  · try simp only [decide_eq_true_eq, decide_eq_false_iff_not] at hc0
    refine AWp.skip ?_
    repeat (with_reducible first | refine thenNil ?_ | refine blockNil ?_)
    refine AWp.seq ?_
    refine AWp.block ?_
    refine AWp.seq ?_
    refine AWp.seq ?_
    refine AWp.region ?_
    refine AOps.run hT true rfl ?_ ?_
    · repeat' (first | exact trivial | exact Bool.not_or_self _ | refine And.intro ?_ ?_ | (simp; done) | (simp_all; done) | (simp [inR_i64] at *; omega))
    refine AOps.nil ?_
    repeat (with_reducible first | refine thenNil ?_ | refine blockNil ?_)
    refine AWp.cond rfl ?_ (fun hc1 => ?_) (fun hc1 => ?_)
    · repeat' (first | exact trivial | exact Bool.not_or_self _ | refine And.intro ?_ ?_ | (simp; done) | (simp_all; done) | (simp [inR_i64] at *; omega))
    · (have hx : x.toNat < n := (by simp at hc0; omega)); subst hk; rw [rmap_get _ hx, show mkB x.toNat = ((1 + x).tmod 3 == 0) by unfold mkB; rw [show ((x.toNat : Nat) : Int) = x by omega]] at hc1; simp at hc1
    · try simp only [decide_eq_true_eq, decide_eq_false_iff_not] at hc1
      refine AWp.skip ?_
      repeat (with_reducible first | refine thenNil ?_ | refine blockNil ?_)
      refine AWp.region ?_
      refine AOps.run hT true rfl ?_ ?_
      · repeat' (first | exact trivial | exact Bool.not_or_self _ | refine And.intro ?_ ?_ | (simp; done) | (simp_all; done) | (simp [inR_i64] at *; omega))
      refine AOps.nil ?_
      repeat (with_reducible first | refine thenNil ?_ | refine blockNil ?_)
      refine AWp.region ?_
      refine AOps.run hT true rfl ?_ ?_
      · repeat' (first | exact trivial | exact Bool.not_or_self _ | refine And.intro ?_ ?_ | (simp; done) | (simp_all; done) | (simp [inR_i64] at *; omega))
      refine AOps.nil ?_
      repeat (with_reducible first | refine thenNil ?_ | refine blockNil ?_)
      refine Exists.intro ((x + 1, k + 1)) (And.intro (And.intro ?_ ?_) ?_)
      · simp at *; omega
      · exact ⟨by omega, by simp at hc0; omega, by omega⟩
      · refine ⟨?_, ?_, rfl, rfl, fun k hk => Nat.lt_of_lt_of_le (hfx k hk) (Nat.le_of_ble_eq_true rfl)⟩
        · repeat' (first | exact Sub.nil | exact rfl | refine Sub.cons ?_ ?_)
        · repeat' (first | exact HTr.nil | exact objEq_refl _ | exact objEq_app1 | exact objEq_nil | exact objEq_mapP | exact objEq_mapI |  exact objEq_set (by first | omega | (simp; omega)) | exact objEq_appS (by simp) (appF_S rfl (fun _ _ => rfl)) | refine HTr.cons ?_ ?_ | refine HTr.dead rfl ?_)
  · try simp only [decide_eq_true_eq, decide_eq_false_iff_not] at hc0
    refine AWp.exit ?_
    repeat (with_reducible first | refine thenExit ?_ | refine blockSame ?_ | refine blockOther rfl ?_ | refine thenNil ?_ | refine blockNil ?_)
    refine AWp.seq ?_
    refine AWp.region ?_
    refine AOps.run hT true rfl ?_ ?_
    · repeat' (first | exact trivial | exact Bool.not_or_self _ | refine And.intro ?_ ?_ | (simp; done) | (simp_all; done) | (simp [inR_i64] at *; omega))
    refine AOps.nil ?_
    repeat (with_reducible first | refine thenNil ?_ | refine blockNil ?_)
    simp at hc0; obtain rfl : k = 1 + (n : Int) := by omega
    refine AWp.ret ?_
    repeat (with_reducible first | refine thenRet ?_ | refine blockRet ?_)
    refine EndsIn.ret rfl ?_ ?_
    · repeat' (first | exact trivial | exact Bool.not_or_self _ | refine And.intro ?_ ?_ | (simp; done) | (simp_all; done) | (simp [inR_i64] at *; omega))
    refine ⟨[], ?_, rfl, rfl, rfl⟩
    rfl

set_option maxRecDepth 20000 in
theorem toBoolS_fn (l : List Bool) (hl : l.length ≤ 1048576) : AFn P 78 [lB l] (.osl 0 none) [oB l] := by
  refine AFn.of_body Tok 22 Go.Proofs.Try.func78 rfl rfl rfl (by simp) rfl ?_
  rintro ⟨_, _, w0, I0, O0, X0, fx⟩ rfl rfl hT hfx
  refine AWp.seq ?_
  refine AWp.region ?_
  refine AOps.run hT true rfl ?_ ?_
  · repeat' (first | exact trivial | exact Bool.not_or_self _ | refine And.intro ?_ ?_ | (simp; done) | (simp_all; done) | (simp [inR_i64] at *; omega))
  refine AOps.nil ?_
  repeat (with_reducible first | refine thenNil ?_ | refine blockNil ?_)
  refine AWp.seq ?_
  refine AWp.region ?_
  refine AOps.run hT true rfl ?_ ?_
  · repeat' (first | exact trivial | exact Bool.not_or_self _ | refine And.intro ?_ ?_ | (simp; done) | (simp_all; done) | (simp [inR_i64] at *; omega))
  refine AOps.nil ?_
  repeat (with_reducible first | refine thenNil ?_ | refine blockNil ?_)
  refine AWp.seq ?_
  refine AWp.seq ?_
  refine AWp.region ?_
  refine AOps.run hT true rfl ?_ ?_
  · repeat' (first | exact trivial | exact Bool.not_or_self _ | refine And.intro ?_ ?_ | (simp; done) | (simp_all; done) | (simp [inR_i64] at *; omega))
  refine AOps.nil ?_
  repeat (with_reducible first | refine thenNil ?_ | refine blockNil ?_)
  refine AWp.block ?_
  refine AWp.loopS (σ := Int × List Bool) (fun (x, m) => (l.length - x).toNat) (fun (x, m) => [(0, .i (lB l)), (3, .osl 0 none), (4, .i (ci x))]) (fun (x, m) => [oB m]) (fun (x, m) => 0 ≤ x ∧ x ≤ l.length ∧ m.length = l.length ∧ m = rmap (fun i => l.getD i default) x.toNat ++ (List.replicate l.length default).drop x.toNat) ((0, List.replicate l.length default)) ?_ ?_ ?_
  · refine ⟨?_, ?_, rfl, rfl, fun k hk => Nat.lt_of_lt_of_le (hfx k hk) (Nat.le_of_ble_eq_true rfl)⟩
    · repeat' (first | exact Sub.nil | exact rfl | refine Sub.cons ?_ ?_)
    · repeat' (first | exact HTr.nil | exact objEq_refl _ | exact objEq_app1 | exact objEq_nil | exact objEq_mapP | exact objEq_mapI |  exact objEq_set (by first | omega | (simp; omega)) | exact objEq_appS (by simp) (appF_S rfl (fun _ _ => rfl)) | refine HTr.cons ?_ ?_ | refine HTr.dead rfl ?_)
      exact objEq_repB
  · exact ⟨by omega, by omega, by simp, (mark_zero _ _).symm⟩
  rintro ⟨x, m⟩ ⟨h0, h1, h2, h3⟩
  refine AWp.seq ?_
  refine AWp.seq ?_
  refine AWp.region ?_
  refine AOps.run hT true rfl ?_ ?_
  · repeat' (first | exact trivial | exact Bool.not_or_self _ | refine And.intro ?_ ?_ | (simp; done) | (simp_all; done) | (simp [inR_i64] at *; omega))
  refine AOps.nil ?_
  repeat (with_reducible first | refine thenNil ?_ | refine blockNil ?_)
  refine AWp.cond rfl ?_ (fun hc0 => ?_) (fun hc0 => ?_)
  · repeat' (first | exact trivial | exact Bool.not_or_self _ | refine And.intro ?_ ?_ | (simp; done) | (simp_all; done) | (simp [inR_i64] at *; omega))
  · try simp only [decide_eq_true_eq, decide_eq_false_iff_not] at hc0
    refine AWp.skip ?_
    repeat (with_reducible first | refine thenNil ?_ | refine blockNil ?_)
    refine AWp.seq ?_
    refine AWp.block ?_
    refine AWp.region ?_
    refine AOps.run hT true rfl ?_ ?_
    · repeat' (first | exact trivial | exact Bool.not_or_self _ | refine And.intro ?_ ?_ | (simp; done) | (simp_all; done) | (simp [inR_i64] at *; omega))
    refine AOps.nil ?_
    repeat (with_reducible first | refine thenNil ?_ | refine blockNil ?_)
    refine AWp.region ?_
    refine AOps.run hT true rfl ?_ ?_
    · repeat' (first | exact trivial | exact Bool.not_or_self _ | refine And.intro ?_ ?_ | (simp; done) | (simp_all; done) | (simp [inR_i64] at *; omega))
    refine AOps.nil ?_
    repeat (with_reducible first | refine thenNil ?_ | refine blockNil ?_)
    refine Exists.intro ((x + 1, m.set x.toNat (l.getD x.toNat default))) (And.intro (And.intro ?_ ?_) ?_)
    · simp at *; omega
    · exact ⟨by omega, by omega, by simp [h2], by rw [h3, mark_set _ _ (by simp; omega), show (x + 1).toNat = x.toNat + 1 by omega]⟩
    · refine ⟨?_, ?_, rfl, rfl, fun k hk => Nat.lt_of_lt_of_le (hfx k hk) (Nat.le_of_ble_eq_true rfl)⟩
      · repeat' (first | exact Sub.nil | exact rfl | refine Sub.cons ?_ ?_)
      · repeat' (first | exact HTr.nil | exact objEq_refl _ | exact objEq_app1 | exact objEq_nil | exact objEq_mapP | exact objEq_mapI |  exact objEq_set (by first | omega | (simp; omega)) | exact objEq_appS (by simp) (appF_S rfl (fun _ _ => rfl)) | refine HTr.cons ?_ ?_ | refine HTr.dead rfl ?_)
  · try simp only [decide_eq_true_eq, decide_eq_false_iff_not] at hc0
    refine AWp.exit ?_
    repeat (with_reducible first | refine thenExit ?_ | refine blockSame ?_ | refine blockOther rfl ?_ | refine thenNil ?_ | refine blockNil ?_)
    refine AWp.seq ?_
    refine AWp.region ?_
    refine AOps.run hT true rfl ?_ ?_
    · repeat' (first | exact trivial | exact Bool.not_or_self _ | refine And.intro ?_ ?_ | (simp; done) | (simp_all; done) | (simp [inR_i64] at *; omega))
    refine AOps.nil ?_
    repeat (with_reducible first | refine thenNil ?_ | refine blockNil ?_)
    refine AWp.ret ?_
    repeat (with_reducible first | refine thenRet ?_ | refine blockRet ?_)
    refine EndsIn.ret rfl ?_ ?_
    · repeat' (first | exact trivial | exact Bool.not_or_self _ | refine And.intro ?_ ?_ | (simp; done) | (simp_all; done) | (simp [inR_i64] at *; omega))
    refine ⟨[0], rfl, ⟨_, _, _, rfl, rfl, rfl, ?_, rfl⟩, rfl, rfl⟩
    rw [show l = m by rw [h3, show x.toNat = l.length by omega, rmap_idB]; simp]
    exact objEq_refl _

set_option maxRecDepth 20000 in
theorem AnswersFor_fn (most : Int) (p : Int × Int) (hm : i64 most) : AFn P 64 [ci most, cpair p] (.tup [.osl 0 none, .i (cb (ansF most p).isSome)]) [oB (ansL most p)] := by
  refine AFn.of_body Tok 42 Go.Proofs.Try.func64 rfl rfl rfl (by simp) rfl ?_
  rintro ⟨_, _, w0, I0, O0, X0, fx⟩ rfl rfl hT hfx
  refine AWp.seq ?_
  refine AWp.region ?_
  refine AOps.run hT true rfl ?_ ?_
  · repeat' (first | exact trivial | exact Bool.not_or_self _ | refine And.intro ?_ ?_ | (simp; done) | (simp_all; done) | (simp [inR_i64] at *; omega))
  refine AOps.nil ?_
  repeat (with_reducible first | refine thenNil ?_ | refine blockNil ?_)
  refine AWp.seq ?_
  refine AWp.region ?_
  refine AOps.run hT true rfl ?_ ?_
  · repeat' (first | exact trivial | exact Bool.not_or_self _ | refine And.intro ?_ ?_ | (simp; done) | (simp_all; done) | (simp [inR_i64] at *; omega))
  refine AOps.callF (T := T) rfl rfl rfl rfl rfl ?_ (AllPairs_fn most hm) (.inl ⟨by repeat' (first | exact trivial | refine And.intro ?_ ?_ | intro _), by repeat' (first | exact trivial | refine And.intro ?_ ?_ | intro _)⟩) rfl ?_
  · repeat' (first | exact trivial | exact Bool.not_or_self _ | refine And.intro ?_ ?_ | (simp; done) | (simp_all; done) | (simp [inR_i64] at *; omega))
  refine AOps.run hT true rfl ?_ ?_
  · repeat' (first | exact trivial | exact Bool.not_or_self _ | refine And.intro ?_ ?_ | (simp; done) | (simp_all; done) | (simp [inR_i64] at *; omega))
  refine AOps.nil ?_
  repeat (with_reducible first | refine thenNil ?_ | refine blockNil ?_)
  refine AWp.seq ?_
  refine AWp.seq ?_
  refine AWp.region ?_
  refine AOps.run hT true rfl ?_ ?_
  · repeat' (first | exact trivial | exact Bool.not_or_self _ | refine And.intro ?_ ?_ | (simp; done) | (simp_all; done) | (simp [inR_i64] at *; omega))
  refine AOps.callF (T := T) rfl rfl rfl rfl rfl ?_ (PairOk_fn p) (.inl ⟨by repeat' (first | exact trivial | refine And.intro ?_ ?_ | intro _), by repeat' (first | exact trivial | refine And.intro ?_ ?_ | intro _)⟩) rfl ?_
  · repeat' (first | exact trivial | exact Bool.not_or_self _ | refine And.intro ?_ ?_ | (simp; done) | (simp_all; done) | (simp [inR_i64] at *; omega))
  refine AOps.run hT true rfl ?_ ?_
  · repeat' (first | exact trivial | exact Bool.not_or_self _ | refine And.intro ?_ ?_ | (simp; done) | (simp_all; done) | (simp [inR_i64] at *; omega))
  refine AOps.callG (T := T) rfl rfl rfl rfl rfl (fun hg => ?_) (fun hg => containsP_fn (allP most) p (allP_len most)) (.inl (by repeat' (first | exact trivial | refine And.intro ?_ ?_ | intro _))) rfl ?_
  · repeat' (first | exact trivial | exact Bool.not_or_self _ | refine And.intro ?_ ?_ | (simp; done) | (simp_all; done) | (simp [inR_i64] at *; omega))
  refine AOps.run hT true rfl ?_ ?_
  · repeat' (first | exact trivial | exact Bool.not_or_self _ | refine And.intro ?_ ?_ | (simp; done) | (simp_all; done) | (simp [inR_i64] at *; omega))
  refine AOps.nil ?_
  repeat (with_reducible first | refine thenNil ?_ | refine blockNil ?_)
  refine AWp.cond rfl ?_ (fun hc0 => ?_) (fun hc0 => ?_)
  · repeat' (first | exact trivial | exact Bool.not_or_self _ | refine And.intro ?_ ?_ | (simp; done) | (simp_all; done) | (simp [inR_i64] at *; omega))
  · try simp only [decide_eq_true_eq, decide_eq_false_iff_not] at hc0
    refine AWp.seq ?_
    have hN : ansF most p = none := by unfold ansF; rw [if_neg]; rintro ⟨e1, e2⟩; rw [e1, e2] at hc0; cases hc0
    rw [hN]
    refine AWp.region ?_
    refine AOps.run hT true rfl ?_ ?_
    · repeat' (first | exact trivial | exact Bool.not_or_self _ | refine And.intro ?_ ?_ | (simp; done) | (simp_all; done) | (simp [inR_i64] at *; omega))
    refine AOps.nil ?_
    repeat (with_reducible first | refine thenNil ?_ | refine blockNil ?_)
    refine AWp.adopt (k := 4) 4 1 nilB rfl ?_
    refine AWp.ret ?_
    repeat (with_reducible first | refine thenRet ?_ | refine blockRet ?_)
    refine EndsIn.ret rfl ?_ ?_
    · repeat' (first | exact trivial | exact Bool.not_or_self _ | refine And.intro ?_ ?_ | (simp; done) | (simp_all; done) | (simp [inR_i64] at *; omega))
    refine ⟨[2], rfl, ⟨_, _, _, rfl, rfl, rfl, ?_, rfl⟩, rfl, rfl⟩
    rw [show ansL most p = [] by unfold ansL; rw [hN]; rfl]
    exact objEq_refl _
  · try simp only [decide_eq_true_eq, decide_eq_false_iff_not] at hc0
    refine AWp.skip ?_
    repeat (with_reducible first | refine thenNil ?_ | refine blockNil ?_)
    refine AWp.seq ?_
    have hY : ansF most p = ansGo p 100 0 (allP most) [] := by unfold ansF; rw [if_pos]; cases e1 : pairOk p <;> cases e2 : has (allP most) p <;> rw [e1, e2] at hc0 <;> first | exact ⟨rfl, rfl⟩ | cases hc0
    refine AWp.region ?_
    refine AOps.run hT true rfl ?_ ?_
    · repeat' (first | exact trivial | exact Bool.not_or_self _ | refine And.intro ?_ ?_ | (simp; done) | (simp_all; done) | (simp [inR_i64] at *; omega))
    refine AOps.nil ?_
    repeat (with_reducible first | refine thenNil ?_ | refine blockNil ?_)
    refine AWp.seq ?_
    refine AWp.seq ?_
    refine AWp.region ?_
    refine AOps.run hT true rfl ?_ ?_
    · repeat' (first | exact trivial | exact Bool.not_or_self _ | refine And.intro ?_ ?_ | (simp; done) | (simp_all; done) | (simp [inR_i64] at *; omega))
    refine AOps.nil ?_
    repeat (with_reducible first | refine thenNil ?_ | refine blockNil ?_)
    refine AWp.block ?_
    refine AWp.adopt (k := 7) 4 1 nilB rfl ?_
    refine AWp.loopR (σ := Int × List (Int × Int) × List Bool) (fun (x, _) => (100 - x).toNat) (fun (x, cur, out) => [(3, .optr 0 0), (6, .osl 1 none), (7, .osl 2 none), (8, .i (ci x))]) (fun (x, cur, out) => [bP p, oP cur, oB out]) (fun (x, cur, out) => 0 ≤ x ∧ x ≤ 100 ∧ out.length ≤ x ∧ cur.length ≤ 1048576 ∧ ansGo p 100 0 (allP most) [] = ansGo p (100 - x).toNat x cur out) ((0, allP most, [])) [0, 1, 2] ?_ ?_ ?_
    · refine ⟨?_, ?_, rfl, rfl, ⟨0, rfl, hfx⟩⟩
      · repeat' (first | exact SubR.nil | exact rfl | refine SubR.cons ?_ ?_)
      · repeat' (first | exact HRn.nil | exact objEq_refl _ | exact objEq_app1 | exact objEq_nil | exact objEq_mapP | exact objEq_mapI |  exact objEq_set (by first | omega | (simp; omega)) | exact objEq_appS (by simp) (appF_S rfl (fun _ _ => rfl)) | refine HRn.cons rfl ?_ ?_ | exact ObjRn.box rfl rfl | refine ObjRn.flat rfl ?_)
    · exact ⟨by omega, by omega, by simp, allP_len most, rfl⟩
    rintro ⟨x, cur, out⟩ ⟨h0, h1, h2, h4, h3⟩
    refine AWp.seq ?_
    refine AWp.seq ?_
    refine AWp.region ?_
    refine AOps.run hT true rfl ?_ ?_
    · repeat' (first | exact trivial | exact Bool.not_or_self _ | refine And.intro ?_ ?_ | (simp; done) | (simp_all; done) | (simp [inR_i64] at *; omega))
    refine AOps.nil ?_
    repeat (with_reducible first | refine thenNil ?_ | refine blockNil ?_)
    refine AWp.cond rfl ?_ (fun hc1 => ?_) (fun hc1 => ?_)
    · repeat' (first | exact trivial | exact Bool.not_or_self _ | refine And.intro ?_ ?_ | (simp; done) | (simp_all; done) | (simp [inR_i64] at *; omega))
    · try simp only [decide_eq_true_eq, decide_eq_false_iff_not] at hc1
      refine AWp.skip ?_
      repeat (with_reducible first | refine thenNil ?_ | refine blockNil ?_)
      refine AWp.seq ?_
      refine AWp.block ?_
      refine AWp.seq ?_
      refine AWp.region ?_
      refine AOps.run hT true rfl ?_ ?_
      · repeat' (first | exact trivial | exact Bool.not_or_self _ | refine And.intro ?_ ?_ | (simp; done) | (simp_all; done) | (simp [inR_i64] at *; omega))
      refine AOps.nil ?_
      repeat (with_reducible first | refine thenNil ?_ | refine blockNil ?_)
      refine AWp.seq ?_
      refine AWp.region ?_
      refine AOps.run hT true rfl ?_ ?_
      · repeat' (first | exact trivial | exact Bool.not_or_self _ | refine And.intro ?_ ?_ | (simp; done) | (simp_all; done) | (simp [inR_i64] at *; omega))
      refine AOps.callF (T := T) rfl rfl rfl rfl rfl ?_ (KnowsOwn_fn cur p (x.tmod 2 == 0) h4) (.inl ⟨by repeat' (first | exact trivial | refine And.intro ?_ ?_ | intro _), by repeat' (first | exact trivial | refine And.intro ?_ ?_ | intro _)⟩) rfl ?_
      · repeat' (first | exact trivial | exact Bool.not_or_self _ | refine And.intro ?_ ?_ | (simp; done) | (simp_all; done) | (simp [inR_i64] at *; omega))
      refine AOps.run hT true rfl ?_ ?_
      · repeat' (first | exact trivial | exact Bool.not_or_self _ | refine And.intro ?_ ?_ | (simp; done) | (simp_all; done) | (simp [inR_i64] at *; omega))
      refine AOps.nil ?_
      repeat (with_reducible first | refine thenNil ?_ | refine blockNil ?_)
      refine AWp.seq ?_
      refine AWp.region ?_
      refine AOps.run hT true rfl ?_ ?_
      · repeat' (first | exact trivial | exact Bool.not_or_self _ | refine And.intro ?_ ?_ | (simp; done) | (simp_all; done) | (simp [inR_i64] at *; omega))
      refine AOps.nil ?_
      repeat (with_reducible first | refine thenNil ?_ | refine blockNil ?_)
      refine AWp.seq ?_
      refine AWp.seq ?_
      refine AWp.region ?_
      refine AOps.run hT true rfl ?_ ?_
      · repeat' (first | exact trivial | exact Bool.not_or_self _ | refine And.intro ?_ ?_ | (simp; done) | (simp_all; done) | (simp [inR_i64] at *; omega))
      refine AOps.nil ?_
      repeat (with_reducible first | refine thenNil ?_ | refine blockNil ?_)
      refine AWp.cond rfl ?_ (fun hc2 => ?_) (fun hc2 => ?_)
      · repeat' (first | exact trivial | exact Bool.not_or_self _ | refine And.intro ?_ ?_ | (simp; done) | (simp_all; done) | (simp [inR_i64] at *; omega))
      · try simp only [decide_eq_true_eq, decide_eq_false_iff_not] at hc2
        refine AWp.seq ?_
        have hS : ansF most p = some (out ++ [knows cur p (x.tmod 2 == 0)]) := by rw [hY, h3, ansGo_step h0 hc1, if_pos hc2]
        rw [hS]
        refine AWp.region ?_
        refine AOps.run hT true rfl ?_ ?_
        · repeat' (first | exact trivial | exact Bool.not_or_self _ | refine And.intro ?_ ?_ | (simp; done) | (simp_all; done) | (simp [inR_i64] at *; omega))
        refine AOps.nil ?_
        repeat (with_reducible first | refine thenNil ?_ | refine blockNil ?_)
        refine AWp.ret ?_
        repeat (with_reducible first | refine thenRet ?_ | refine blockRet ?_)
        refine EndsIn.ret rfl ?_ ?_
        · repeat' (first | exact trivial | exact Bool.not_or_self _ | refine And.intro ?_ ?_ | (simp; done) | (simp_all; done) | (simp [inR_i64] at *; omega))
        refine ⟨[2], rfl, ⟨_, _, _, rfl, rfl, rfl, ?_, rfl⟩, rfl, rfl⟩
        rw [show ansL most p = out ++ [knows cur p (x.tmod 2 == 0)] by unfold ansL; rw [hS]; rfl]
        exact objEq_app1
      · try simp only [decide_eq_true_eq, decide_eq_false_iff_not] at hc2
        refine AWp.skip ?_
        repeat (with_reducible first | refine thenNil ?_ | refine blockNil ?_)
        refine AWp.region ?_
        refine AOps.run hT true rfl ?_ ?_
        · repeat' (first | exact trivial | exact Bool.not_or_self _ | refine And.intro ?_ ?_ | (simp; done) | (simp_all; done) | (simp [inR_i64] at *; omega))
        refine AOps.callF (T := T) rfl rfl rfl rfl rfl ?_ (AfterAnswer_fn cur (x.tmod 2 == 0) false h4) (.inl ⟨by repeat' (first | exact trivial | refine And.intro ?_ ?_ | intro _), by repeat' (first | exact trivial | refine And.intro ?_ ?_ | intro _)⟩) rfl ?_
        · repeat' (first | exact trivial | exact Bool.not_or_self _ | refine And.intro ?_ ?_ | (simp; done) | (simp_all; done) | (simp [inR_i64] at *; omega))
        refine AOps.run hT true rfl ?_ ?_
        · repeat' (first | exact trivial | exact Bool.not_or_self _ | refine And.intro ?_ ?_ | (simp; done) | (simp_all; done) | (simp [inR_i64] at *; omega))
        refine AOps.nil ?_
        repeat (with_reducible first | refine thenNil ?_ | refine blockNil ?_)
        refine AWp.region ?_
        refine AOps.run hT true rfl ?_ ?_
        · repeat' (first | exact trivial | exact Bool.not_or_self _ | refine And.intro ?_ ?_ | (simp; done) | (simp_all; done) | (simp [inR_i64] at *; omega))
        refine AOps.nil ?_
        repeat (with_reducible first | refine thenNil ?_ | refine blockNil ?_)
        refine Exists.intro ((x + 1, aft cur (x.tmod 2 == 0) false, out ++ [knows cur p (x.tmod 2 == 0)])) (And.intro (And.intro ?_ ?_) (Exists.intro [0, 4, 2] ?_))
        · simp at *; omega
        · exact ⟨by omega, by omega, by simp; omega, aft_len h4, by rw [h3, ansGo_step h0 hc1, if_neg (by rw [hc2]; simp)]⟩
        · refine ⟨?_, ?_, rfl, rfl, ⟨0, rfl, hfx⟩⟩
          · repeat' (first | exact SubR.nil | exact rfl | refine SubR.cons ?_ ?_)
          · repeat' (first | exact HRn.nil | exact objEq_refl _ | exact objEq_app1 | exact objEq_nil | exact objEq_mapP | exact objEq_mapI |  exact objEq_set (by first | omega | (simp; omega)) | exact objEq_appS (by simp) (appF_S rfl (fun _ _ => rfl)) | refine HRn.cons rfl ?_ ?_ | exact ObjRn.box rfl rfl | refine ObjRn.flat rfl ?_)
    · try simp only [decide_eq_true_eq, decide_eq_false_iff_not] at hc1
      refine AWp.exit ?_
      repeat (with_reducible first | refine thenExit ?_ | refine blockSame ?_ | refine blockOther rfl ?_ | refine thenNil ?_ | refine blockNil ?_)
      refine AWp.seq ?_
      have hN : ansF most p = none := by rw [hY, h3, show (100 - x).toNat = 0 by omega]; rfl
      rw [hN]
      refine AWp.region ?_
      refine AOps.run hT true rfl ?_ ?_
      · repeat' (first | exact trivial | exact Bool.not_or_self _ | refine And.intro ?_ ?_ | (simp; done) | (simp_all; done) | (simp [inR_i64] at *; omega))
      refine AOps.nil ?_
      repeat (with_reducible first | refine thenNil ?_ | refine blockNil ?_)
      refine AWp.adopt (k := 4) 4 1 nilB rfl ?_
      refine AWp.ret ?_
      repeat (with_reducible first | refine thenRet ?_ | refine blockRet ?_)
      refine EndsIn.ret rfl ?_ ?_
      · repeat' (first | exact trivial | exact Bool.not_or_self _ | refine And.intro ?_ ?_ | (simp; done) | (simp_all; done) | (simp [inR_i64] at *; omega))
      refine ⟨[3], rfl, ⟨_, _, _, rfl, rfl, rfl, ?_, rfl⟩, rfl, rfl⟩
      rw [show ansL most p = [] by unfold ansL; rw [hN]; rfl]
      exact objEq_refl _

set_option maxRecDepth 20000 in
theorem sAnswersFor_fn (most : Int) (p : Int × Int) (hm : i64 most) : AFn P 70 [ci most, cpair p] (.tup [.osl 0 none, .i (cb (ansF most p).isSome)]) [oB (ansL most p)] := by
  refine AFn.of_body Tok 43 Go.Proofs.Try.func70 rfl rfl rfl (by simp) rfl ?_
  rintro ⟨_, _, w0, I0, O0, X0, fx⟩ rfl rfl hT hfx
  refine AWp.seq ?_
  refine AWp.region ?_
  refine AOps.run hT true rfl ?_ ?_
  · repeat' (first | exact trivial | exact Bool.not_or_self _ | refine And.intro ?_ ?_ | (simp; done) | (simp_all; done) | (simp [inR_i64] at *; omega))
  refine AOps.nil ?_
  repeat (with_reducible first | refine thenNil ?_ | refine blockNil ?_)
  refine AWp.seq ?_
  refine AWp.region ?_
  refine AOps.run hT true rfl ?_ ?_
  · repeat' (first | exact trivial | exact Bool.not_or_self _ | refine And.intro ?_ ?_ | (simp; done) | (simp_all; done) | (simp [inR_i64] at *; omega))
  refine AOps.callF (T := T) rfl rfl rfl rfl rfl ?_ (sAllPairs_fn most hm) (.inl ⟨by repeat' (first | exact trivial | refine And.intro ?_ ?_ | intro _), by repeat' (first | exact trivial | refine And.intro ?_ ?_ | intro _)⟩) rfl ?_
  · repeat' (first | exact trivial | exact Bool.not_or_self _ | refine And.intro ?_ ?_ | (simp; done) | (simp_all; done) | (simp [inR_i64] at *; omega))
  refine AOps.run hT true rfl ?_ ?_
  · repeat' (first | exact trivial | exact Bool.not_or_self _ | refine And.intro ?_ ?_ | (simp; done) | (simp_all; done) | (simp [inR_i64] at *; omega))
  refine AOps.nil ?_
  repeat (with_reducible first | refine thenNil ?_ | refine blockNil ?_)
  refine AWp.seq ?_
  refine AWp.seq ?_
  refine AWp.region ?_
  refine AOps.run hT true rfl ?_ ?_
  · repeat' (first | exact trivial | exact Bool.not_or_self _ | refine And.intro ?_ ?_ | (simp; done) | (simp_all; done) | (simp [inR_i64] at *; omega))
  refine AOps.callF (T := T) rfl rfl rfl rfl rfl ?_ (sPairOk_fn p) (.inl ⟨by repeat' (first | exact trivial | refine And.intro ?_ ?_ | intro _), by repeat' (first | exact trivial | refine And.intro ?_ ?_ | intro _)⟩) rfl ?_
  · repeat' (first | exact trivial | exact Bool.not_or_self _ | refine And.intro ?_ ?_ | (simp; done) | (simp_all; done) | (simp [inR_i64] at *; omega))
  refine AOps.run hT true rfl ?_ ?_
  · repeat' (first | exact trivial | exact Bool.not_or_self _ | refine And.intro ?_ ?_ | (simp; done) | (simp_all; done) | (simp [inR_i64] at *; omega))
  refine AOps.callG (T := T) rfl rfl rfl rfl rfl (fun hg => ?_) (fun hg => l11Has_fn (allP most) p (allP_len most)) (.inl (by repeat' (first | exact trivial | refine And.intro ?_ ?_ | intro _))) rfl ?_
  · repeat' (first | exact trivial | exact Bool.not_or_self _ | refine And.intro ?_ ?_ | (simp; done) | (simp_all; done) | (simp [inR_i64] at *; omega))
  refine AOps.run hT true rfl ?_ ?_
  · repeat' (first | exact trivial | exact Bool.not_or_self _ | refine And.intro ?_ ?_ | (simp; done) | (simp_all; done) | (simp [inR_i64] at *; omega))
  refine AOps.nil ?_
  repeat (with_reducible first | refine thenNil ?_ | refine blockNil ?_)
  refine AWp.cond rfl ?_ (fun hc0 => ?_) (fun hc0 => ?_)
  · repeat' (first | exact trivial | exact Bool.not_or_self _ | refine And.intro ?_ ?_ | (simp; done) | (simp_all; done) | (simp [inR_i64] at *; omega))
  · try simp only [decide_eq_true_eq, decide_eq_false_iff_not] at hc0
    refine AWp.seq ?_
    have hN : ansF most p = none := by unfold ansF; rw [if_neg]; rintro ⟨e1, e2⟩; rw [e1, e2] at hc0; cases hc0
    rw [hN]
    refine AWp.region ?_
    refine AOps.run hT true rfl ?_ ?_
    · repeat' (first | exact trivial | exact Bool.not_or_self _ | refine And.intro ?_ ?_ | (simp; done) | (simp_all; done) | (simp [inR_i64] at *; omega))
    refine AOps.nil ?_
    repeat (with_reducible first | refine thenNil ?_ | refine blockNil ?_)
    refine AWp.adopt (k := 4) 4 1 nilB rfl ?_
    refine AWp.ret ?_
    repeat (with_reducible first | refine thenRet ?_ | refine blockRet ?_)
    refine EndsIn.ret rfl ?_ ?_
    · repeat' (first | exact trivial | exact Bool.not_or_self _ | refine And.intro ?_ ?_ | (simp; done) | (simp_all; done) | (simp [inR_i64] at *; omega))
    refine ⟨[2], rfl, ⟨_, _, _, rfl, rfl, rfl, ?_, rfl⟩, rfl, rfl⟩
    rw [show ansL most p = [] by unfold ansL; rw [hN]; rfl]
    exact objEq_refl _
  · try simp only [decide_eq_true_eq, decide_eq_false_iff_not] at hc0
    refine AWp.skip ?_
    repeat (with_reducible first | refine thenNil ?_ | refine blockNil ?_)
    refine AWp.seq ?_
    have hY : ansF most p = ansGo p 100 0 (allP most) [] := by unfold ansF; rw [if_pos]; cases e1 : pairOk p <;> cases e2 : has (allP most) p <;> rw [e1, e2] at hc0 <;> first | exact ⟨rfl, rfl⟩ | cases hc0
    refine AWp.region ?_
    refine AOps.run hT true rfl ?_ ?_
    · repeat' (first | exact trivial | exact Bool.not_or_self _ | refine And.intro ?_ ?_ | (simp; done) | (simp_all; done) | (simp [inR_i64] at *; omega))
    refine AOps.nil ?_
    repeat (with_reducible first | refine thenNil ?_ | refine blockNil ?_)
    refine AWp.seq ?_
    refine AWp.seq ?_
    refine AWp.region ?_
    refine AOps.run hT true rfl ?_ ?_
    · repeat' (first | exact trivial | exact Bool.not_or_self _ | refine And.intro ?_ ?_ | (simp; done) | (simp_all; done) | (simp [inR_i64] at *; omega))
    refine AOps.nil ?_
    repeat (with_reducible first | refine thenNil ?_ | refine blockNil ?_)
    refine AWp.block ?_
    refine AWp.loopR (σ := Int × List (Int × Int) × List Bool) (fun (x, _) => (100 - x).toNat) (fun (x, cur, out) => [(3, .optr 0 0), (6, .osl 1 none), (7, .osl 2 none), (8, .i (ci x))]) (fun (x, cur, out) => [bP p, oP cur, oB out]) (fun (x, cur, out) => 0 ≤ x ∧ x ≤ 100 ∧ out.length ≤ x ∧ cur.length ≤ 1048576 ∧ ansGo p 100 0 (allP most) [] = ansGo p (100 - x).toNat x cur out) ((0, allP most, [])) [0, 1, 2] ?_ ?_ ?_
    · refine ⟨?_, ?_, rfl, rfl, ⟨0, rfl, hfx⟩⟩
      · repeat' (first | exact SubR.nil | exact rfl | refine SubR.cons ?_ ?_)
      · repeat' (first | exact HRn.nil | exact objEq_refl _ | exact objEq_app1 | exact objEq_nil | exact objEq_mapP | exact objEq_mapI |  exact objEq_set (by first | omega | (simp; omega)) | exact objEq_appS (by simp) (appF_S rfl (fun _ _ => rfl)) | refine HRn.cons rfl ?_ ?_ | exact ObjRn.box rfl rfl | refine ObjRn.flat rfl ?_)
    · exact ⟨by omega, by omega, by simp, allP_len most, rfl⟩
    rintro ⟨x, cur, out⟩ ⟨h0, h1, h2, h4, h3⟩
    refine AWp.seq ?_
    refine AWp.seq ?_
    refine AWp.region ?_
    refine AOps.run hT true rfl ?_ ?_
    · repeat' (first | exact trivial | exact Bool.not_or_self _ | refine And.intro ?_ ?_ | (simp; done) | (simp_all; done) | (simp [inR_i64] at *; omega))
    refine AOps.nil ?_
    repeat (with_reducible first | refine thenNil ?_ | refine blockNil ?_)
    refine AWp.cond rfl ?_ (fun hc1 => ?_) (fun hc1 => ?_)
    · repeat' (first | exact trivial | exact Bool.not_or_self _ | refine And.intro ?_ ?_ | (simp; done) | (simp_all; done) | (simp [inR_i64] at *; omega))
    · try simp only [decide_eq_true_eq, decide_eq_false_iff_not] at hc1
      refine AWp.skip ?_
      repeat (with_reducible first | refine thenNil ?_ | refine blockNil ?_)
      refine AWp.seq ?_
      refine AWp.block ?_
      refine AWp.seq ?_
      refine AWp.region ?_
      refine AOps.run hT true rfl ?_ ?_
      · repeat' (first | exact trivial | exact Bool.not_or_self _ | refine And.intro ?_ ?_ | (simp; done) | (simp_all; done) | (simp [inR_i64] at *; omega))
      refine AOps.callF (T := T) rfl rfl rfl rfl rfl ?_ (sKnowsOwn_fn cur p (x.tmod 2 == 0) h4) (.inl ⟨by repeat' (first | exact trivial | refine And.intro ?_ ?_ | intro _), by repeat' (first | exact trivial | refine And.intro ?_ ?_ | intro _)⟩) rfl ?_
      · repeat' (first | exact trivial | exact Bool.not_or_self _ | refine And.intro ?_ ?_ | (simp; done) | (simp_all; done) | (simp [inR_i64] at *; omega))
      refine AOps.run hT true rfl ?_ ?_
      · repeat' (first | exact trivial | exact Bool.not_or_self _ | refine And.intro ?_ ?_ | (simp; done) | (simp_all; done) | (simp [inR_i64] at *; omega))
      refine AOps.nil ?_
      repeat (with_reducible first | refine thenNil ?_ | refine blockNil ?_)
      refine AWp.seq ?_
      refine AWp.region ?_
      refine AOps.run hT true rfl ?_ ?_
      · repeat' (first | exact trivial | exact Bool.not_or_self _ | refine And.intro ?_ ?_ | (simp; done) | (simp_all; done) | (simp [inR_i64] at *; omega))
      refine AOps.nil ?_
      repeat (with_reducible first | refine thenNil ?_ | refine blockNil ?_)
      refine AWp.seq ?_
      refine AWp.seq ?_
      refine AWp.region ?_
      refine AOps.run hT true rfl ?_ ?_
      · repeat' (first | exact trivial | exact Bool.not_or_self _ | refine And.intro ?_ ?_ | (simp; done) | (simp_all; done) | (simp [inR_i64] at *; omega))
      refine AOps.nil ?_
      repeat (with_reducible first | refine thenNil ?_ | refine blockNil ?_)
      refine AWp.cond rfl ?_ (fun hc2 => ?_) (fun hc2 => ?_)
      · repeat' (first | exact trivial | exact Bool.not_or_self _ | refine And.intro ?_ ?_ | (simp; done) | (simp_all; done) | (simp [inR_i64] at *; omega))
      · try simp only [decide_eq_true_eq, decide_eq_false_iff_not] at hc2
        refine AWp.seq ?_
        have hS : ansF most p = some (out ++ [knows cur p (x.tmod 2 == 0)]) := by rw [hY, h3, ansGo_step h0 hc1, if_pos hc2]
        rw [hS]
        refine AWp.region ?_
        refine AOps.run hT true rfl ?_ ?_
        · repeat' (first | exact trivial | exact Bool.not_or_self _ | refine And.intro ?_ ?_ | (simp; done) | (simp_all; done) | (simp [inR_i64] at *; omega))
        refine AOps.nil ?_
        repeat (with_reducible first | refine thenNil ?_ | refine blockNil ?_)
        refine AWp.ret ?_
        repeat (with_reducible first | refine thenRet ?_ | refine blockRet ?_)
        refine EndsIn.ret rfl ?_ ?_
        · repeat' (first | exact trivial | exact Bool.not_or_self _ | refine And.intro ?_ ?_ | (simp; done) | (simp_all; done) | (simp [inR_i64] at *; omega))
        refine ⟨[2], rfl, ⟨_, _, _, rfl, rfl, rfl, ?_, rfl⟩, rfl, rfl⟩
        rw [show ansL most p = out ++ [knows cur p (x.tmod 2 == 0)] by unfold ansL; rw [hS]; rfl]
        exact objEq_app1
      · try simp only [decide_eq_true_eq, decide_eq_false_iff_not] at hc2
        refine AWp.skip ?_
        repeat (with_reducible first | refine thenNil ?_ | refine blockNil ?_)
        refine AWp.region ?_
        refine AOps.run hT true rfl ?_ ?_
        · repeat' (first | exact trivial | exact Bool.not_or_self _ | refine And.intro ?_ ?_ | (simp; done) | (simp_all; done) | (simp [inR_i64] at *; omega))
        refine AOps.callF (T := T) rfl rfl rfl rfl rfl ?_ (sAfterAnswer_fn cur (x.tmod 2 == 0) false h4) (.inl ⟨by repeat' (first | exact trivial | refine And.intro ?_ ?_ | intro _), by repeat' (first | exact trivial | refine And.intro ?_ ?_ | intro _)⟩) rfl ?_
        · repeat' (first | exact trivial | exact Bool.not_or_self _ | refine And.intro ?_ ?_ | (simp; done) | (simp_all; done) | (simp [inR_i64] at *; omega))
        refine AOps.run hT true rfl ?_ ?_
        · repeat' (first | exact trivial | exact Bool.not_or_self _ | refine And.intro ?_ ?_ | (simp; done) | (simp_all; done) | (simp [inR_i64] at *; omega))
        refine AOps.nil ?_
        repeat (with_reducible first | refine thenNil ?_ | refine blockNil ?_)
        refine AWp.region ?_
        refine AOps.run hT true rfl ?_ ?_
        · repeat' (first | exact trivial | exact Bool.not_or_self _ | refine And.intro ?_ ?_ | (simp; done) | (simp_all; done) | (simp [inR_i64] at *; omega))
        refine AOps.nil ?_
        repeat (with_reducible first | refine thenNil ?_ | refine blockNil ?_)
        refine Exists.intro ((x + 1, aft cur (x.tmod 2 == 0) false, out ++ [knows cur p (x.tmod 2 == 0)])) (And.intro (And.intro ?_ ?_) (Exists.intro [0, 4, 2] ?_))
        · simp at *; omega
        · exact ⟨by omega, by omega, by simp; omega, aft_len h4, by rw [h3, ansGo_step h0 hc1, if_neg (by rw [hc2]; simp)]⟩
        · refine ⟨?_, ?_, rfl, rfl, ⟨0, rfl, hfx⟩⟩
          · repeat' (first | exact SubR.nil | exact rfl | refine SubR.cons ?_ ?_)
          · repeat' (first | exact HRn.nil | exact objEq_refl _ | exact objEq_app1 | exact objEq_nil | exact objEq_mapP | exact objEq_mapI |  exact objEq_set (by first | omega | (simp; omega)) | exact objEq_appS (by simp) (appF_S rfl (fun _ _ => rfl)) | refine HRn.cons rfl ?_ ?_ | exact ObjRn.box rfl rfl | refine ObjRn.flat rfl ?_)
    · try simp only [decide_eq_true_eq, decide_eq_false_iff_not] at hc1
      refine AWp.exit ?_
      repeat (with_reducible first | refine thenExit ?_ | refine blockSame ?_ | refine blockOther rfl ?_ | refine thenNil ?_ | refine blockNil ?_)
      refine AWp.seq ?_
      have hN : ansF most p = none := by rw [hY, h3, show (100 - x).toNat = 0 by omega]; rfl
      rw [hN]
      refine AWp.region ?_
      refine AOps.run hT true rfl ?_ ?_
      · repeat' (first | exact trivial | exact Bool.not_or_self _ | refine And.intro ?_ ?_ | (simp; done) | (simp_all; done) | (simp [inR_i64] at *; omega))
      refine AOps.nil ?_
      repeat (with_reducible first | refine thenNil ?_ | refine blockNil ?_)
      refine AWp.adopt (k := 4) 4 1 nilB rfl ?_
      refine AWp.ret ?_
      repeat (with_reducible first | refine thenRet ?_ | refine blockRet ?_)
      refine EndsIn.ret rfl ?_ ?_
      · repeat' (first | exact trivial | exact Bool.not_or_self _ | refine And.intro ?_ ?_ | (simp; done) | (simp_all; done) | (simp [inR_i64] at *; omega))
      refine ⟨[3], rfl, ⟨_, _, _, rfl, rfl, rfl, ?_, rfl⟩, rfl, rfl⟩
      rw [show ansL most p = [] by unfold ansL; rw [hN]; rfl]
      exact objEq_refl _

set_option maxRecDepth 20000 in
theorem TurnOf_fn (most : Int) (p : Int × Int) (hm : i64 most) : AFn P 65 [ci most, cpair p] (.i (ci (ansL most p).length)) [] := by
  refine AFn.of_body Tok 15 Go.Proofs.Try.func65 rfl rfl rfl (by simp) rfl ?_
  rintro ⟨_, _, w0, I0, O0, X0, fx⟩ rfl rfl hT hfx
  refine AWp.seq ?_
  refine AWp.region ?_
  refine AOps.run hT true rfl ?_ ?_
  · repeat' (first | exact trivial | exact Bool.not_or_self _ | refine And.intro ?_ ?_ | (simp; done) | (simp_all; done) | (simp [inR_i64] at *; omega))
  refine AOps.nil ?_
  repeat (with_reducible first | refine thenNil ?_ | refine blockNil ?_)
  refine AWp.seq ?_
  refine AWp.region ?_
  refine AOps.run hT true rfl ?_ ?_
  · repeat' (first | exact trivial | exact Bool.not_or_self _ | refine And.intro ?_ ?_ | (simp; done) | (simp_all; done) | (simp [inR_i64] at *; omega))
  refine AOps.callF (T := T) rfl rfl rfl rfl rfl ?_ (AnswersFor_fn most p hm) (.inl ⟨by repeat' (first | exact trivial | refine And.intro ?_ ?_ | intro _), by repeat' (first | exact trivial | refine And.intro ?_ ?_ | intro _)⟩) rfl ?_
  · repeat' (first | exact trivial | exact Bool.not_or_self _ | refine And.intro ?_ ?_ | (simp; done) | (simp_all; done) | (simp [inR_i64] at *; omega))
  refine AOps.run hT true rfl ?_ ?_
  · repeat' (first | exact trivial | exact Bool.not_or_self _ | refine And.intro ?_ ?_ | (simp; done) | (simp_all; done) | (simp [inR_i64] at *; omega))
  refine AOps.nil ?_
  repeat (with_reducible first | refine thenNil ?_ | refine blockNil ?_)
  refine AWp.seq ?_
  refine AWp.region ?_
  refine AOps.run hT true rfl ?_ ?_
  · repeat' (first | exact trivial | exact Bool.not_or_self _ | refine And.intro ?_ ?_ | (simp; done) | (simp_all; done) | (simp [inR_i64] at *; omega))
  refine AOps.nil ?_
  repeat (with_reducible first | refine thenNil ?_ | refine blockNil ?_)
  refine AWp.ret ?_
  repeat (with_reducible first | refine thenRet ?_ | refine blockRet ?_)
  refine EndsIn.ret rfl ?_ ?_
  · repeat' (first | exact trivial | exact Bool.not_or_self _ | refine And.intro ?_ ?_ | (simp; done) | (simp_all; done) | (simp [inR_i64] at *; omega))
  refine ⟨[], ?_, rfl, rfl, rfl⟩
  rfl

set_option maxRecDepth 20000 in
theorem sTurnOf_fn (most : Int) (p : Int × Int) (hm : i64 most) : AFn P 67 [ci most, cpair p] (.i (ci (ansL most p).length)) [] := by
  refine AFn.of_body Tok 15 Go.Proofs.Try.func67 rfl rfl rfl (by simp) rfl ?_
  rintro ⟨_, _, w0, I0, O0, X0, fx⟩ rfl rfl hT hfx
  refine AWp.seq ?_
  refine AWp.region ?_
  refine AOps.run hT true rfl ?_ ?_
  · repeat' (first | exact trivial | exact Bool.not_or_self _ | refine And.intro ?_ ?_ | (simp; done) | (simp_all; done) | (simp [inR_i64] at *; omega))
  refine AOps.nil ?_
  repeat (with_reducible first | refine thenNil ?_ | refine blockNil ?_)
  refine AWp.seq ?_
  refine AWp.region ?_
  refine AOps.run hT true rfl ?_ ?_
  · repeat' (first | exact trivial | exact Bool.not_or_self _ | refine And.intro ?_ ?_ | (simp; done) | (simp_all; done) | (simp [inR_i64] at *; omega))
  refine AOps.callF (T := T) rfl rfl rfl rfl rfl ?_ (sAnswersFor_fn most p hm) (.inl ⟨by repeat' (first | exact trivial | refine And.intro ?_ ?_ | intro _), by repeat' (first | exact trivial | refine And.intro ?_ ?_ | intro _)⟩) rfl ?_
  · repeat' (first | exact trivial | exact Bool.not_or_self _ | refine And.intro ?_ ?_ | (simp; done) | (simp_all; done) | (simp [inR_i64] at *; omega))
  refine AOps.run hT true rfl ?_ ?_
  · repeat' (first | exact trivial | exact Bool.not_or_self _ | refine And.intro ?_ ?_ | (simp; done) | (simp_all; done) | (simp [inR_i64] at *; omega))
  refine AOps.nil ?_
  repeat (with_reducible first | refine thenNil ?_ | refine blockNil ?_)
  refine AWp.seq ?_
  refine AWp.region ?_
  refine AOps.run hT true rfl ?_ ?_
  · repeat' (first | exact trivial | exact Bool.not_or_self _ | refine And.intro ?_ ?_ | (simp; done) | (simp_all; done) | (simp [inR_i64] at *; omega))
  refine AOps.nil ?_
  repeat (with_reducible first | refine thenNil ?_ | refine blockNil ?_)
  refine AWp.ret ?_
  repeat (with_reducible first | refine thenRet ?_ | refine blockRet ?_)
  refine EndsIn.ret rfl ?_ ?_
  · repeat' (first | exact trivial | exact Bool.not_or_self _ | refine And.intro ?_ ?_ | (simp; done) | (simp_all; done) | (simp [inR_i64] at *; omega))
  refine ⟨[], ?_, rfl, rfl, rfl⟩
  rfl

set_option maxRecDepth 20000 in
theorem PairsLeft_fn (most : Int) (bs : List Bool) (hm : i64 most) (hb : bs.length ≤ 1048576) : AFn P 66 [ci most, lB bs] (.osl 0 none) [oP (leftF most bs)] := by
  refine AFn.of_body Tok 28 Go.Proofs.Try.func66 rfl rfl rfl (by simp) rfl ?_
  rintro ⟨_, _, w0, I0, O0, X0, fx⟩ rfl rfl hT hfx
  refine AWp.seq ?_
  refine AWp.region ?_
  refine AOps.run hT true rfl ?_ ?_
  · repeat' (first | exact trivial | exact Bool.not_or_self _ | refine And.intro ?_ ?_ | (simp; done) | (simp_all; done) | (simp [inR_i64] at *; omega))
  refine AOps.nil ?_
  repeat (with_reducible first | refine thenNil ?_ | refine blockNil ?_)
  refine AWp.seq ?_
  refine AWp.seq ?_
  refine AWp.region ?_
  refine AOps.run hT true rfl ?_ ?_
  · repeat' (first | exact trivial | exact Bool.not_or_self _ | refine And.intro ?_ ?_ | (simp; done) | (simp_all; done) | (simp [inR_i64] at *; omega))
  refine AOps.nil ?_
  repeat (with_reducible first | refine thenNil ?_ | refine blockNil ?_)
  refine AWp.cond rfl ?_ (fun hc0 => ?_) (fun hc0 => ?_)
  · repeat' (first | exact trivial | exact Bool.not_or_self _ | refine And.intro ?_ ?_ | (simp; done) | (simp_all; done) | (simp [inR_i64] at *; omega))
  · try simp only [decide_eq_true_eq, decide_eq_false_iff_not] at hc0
    refine AWp.seq ?_
    refine AWp.region ?_
    refine AOps.run hT true rfl ?_ ?_
    · repeat' (first | exact trivial | exact Bool.not_or_self _ | refine And.intro ?_ ?_ | (simp; done) | (simp_all; done) | (simp [inR_i64] at *; omega))
    refine AOps.nil ?_
    repeat (with_reducible first | refine thenNil ?_ | refine blockNil ?_)
    refine AWp.adopt (k := 4) 25 2 nilP rfl ?_
    refine AWp.ret ?_
    repeat (with_reducible first | refine thenRet ?_ | refine blockRet ?_)
    refine EndsIn.ret rfl ?_ ?_
    · repeat' (first | exact trivial | exact Bool.not_or_self _ | refine And.intro ?_ ?_ | (simp; done) | (simp_all; done) | (simp [inR_i64] at *; omega))
    refine ⟨[0], rfl, ⟨_, _, _, rfl, rfl, rfl, ?_, rfl⟩, rfl, rfl⟩
    rw [show leftF most bs = [] by unfold leftF; rw [if_neg (by omega)]]
    exact objEq_refl _
  · try simp only [decide_eq_true_eq, decide_eq_false_iff_not] at hc0
    refine AWp.skip ?_
    repeat (with_reducible first | refine thenNil ?_ | refine blockNil ?_)
    refine AWp.seq ?_
    refine AWp.region ?_
    refine AOps.run hT true rfl ?_ ?_
    · repeat' (first | exact trivial | exact Bool.not_or_self _ | refine And.intro ?_ ?_ | (simp; done) | (simp_all; done) | (simp [inR_i64] at *; omega))
    refine AOps.callF (T := T) rfl rfl rfl rfl rfl ?_ (AllPairs_fn most hm) (.inl ⟨by repeat' (first | exact trivial | refine And.intro ?_ ?_ | intro _), by repeat' (first | exact trivial | refine And.intro ?_ ?_ | intro _)⟩) rfl ?_
    · repeat' (first | exact trivial | exact Bool.not_or_self _ | refine And.intro ?_ ?_ | (simp; done) | (simp_all; done) | (simp [inR_i64] at *; omega))
    refine AOps.run hT true rfl ?_ ?_
    · repeat' (first | exact trivial | exact Bool.not_or_self _ | refine And.intro ?_ ?_ | (simp; done) | (simp_all; done) | (simp [inR_i64] at *; omega))
    refine AOps.nil ?_
    repeat (with_reducible first | refine thenNil ?_ | refine blockNil ?_)
    refine AWp.seq ?_
    refine AWp.seq ?_
    refine AWp.region ?_
    refine AOps.run hT true rfl ?_ ?_
    · repeat' (first | exact trivial | exact Bool.not_or_self _ | refine And.intro ?_ ?_ | (simp; done) | (simp_all; done) | (simp [inR_i64] at *; omega))
    refine AOps.nil ?_
    repeat (with_reducible first | refine thenNil ?_ | refine blockNil ?_)
    refine AWp.block ?_
    refine AWp.loopR (σ := Int × List (Int × Int)) (fun (x, _) => (bs.length - x).toNat) (fun (x, cur) => [(5, .osl 0 none), (13, .i (lB bs)), (14, .i (ci bs.length)), (15, .i (ci x))]) (fun (x, cur) => [oP cur]) (fun (x, cur) => 0 ≤ x ∧ x ≤ bs.length ∧ cur.length ≤ 1048576 ∧ leftGo 0 (allP most) bs = leftGo x cur (bs.drop x.toNat)) ((0, allP most)) [0] ?_ ?_ ?_
    · refine ⟨?_, ?_, rfl, rfl, ⟨0, rfl, hfx⟩⟩
      · repeat' (first | exact SubR.nil | exact rfl | refine SubR.cons ?_ ?_)
      · repeat' (first | exact HRn.nil | exact objEq_refl _ | exact objEq_app1 | exact objEq_nil | exact objEq_mapP | exact objEq_mapI |  exact objEq_set (by first | omega | (simp; omega)) | exact objEq_appS (by simp) (appF_S rfl (fun _ _ => rfl)) | refine HRn.cons rfl ?_ ?_ | exact ObjRn.box rfl rfl | refine ObjRn.flat rfl ?_)
    · exact ⟨by omega, by omega, allP_len most, rfl⟩
    rintro ⟨x, cur⟩ ⟨h0, h1, h4, h3⟩
    refine AWp.seq ?_
    refine AWp.region ?_
    refine AOps.run hT true rfl ?_ ?_
    · repeat' (first | exact trivial | exact Bool.not_or_self _ | refine And.intro ?_ ?_ | (simp; done) | (simp_all; done) | (simp [inR_i64] at *; omega))
    refine AOps.nil ?_
    repeat (with_reducible first | refine thenNil ?_ | refine blockNil ?_)
    refine AWp.seq ?_
    refine AWp.cond rfl ?_ (fun hc1 => ?_) (fun hc1 => ?_)
    · repeat' (first | exact trivial | exact Bool.not_or_self _ | refine And.intro ?_ ?_ | (simp; done) | (simp_all; done) | (simp [inR_i64] at *; omega))
    · try simp only [decide_eq_true_eq, decide_eq_false_iff_not] at hc1
      refine AWp.skip ?_
      repeat (with_reducible first | refine thenNil ?_ | refine blockNil ?_)
      refine AWp.seq ?_
      refine AWp.block ?_
      refine AWp.seq ?_
      refine AWp.region ?_
      refine AOps.run hT true rfl ?_ ?_
      · repeat' (first | exact trivial | exact Bool.not_or_self _ | refine And.intro ?_ ?_ | (simp; done) | (simp_all; done) | (simp [inR_i64] at *; omega))
      refine AOps.nil ?_
      repeat (with_reducible first | refine thenNil ?_ | refine blockNil ?_)
      refine AWp.region ?_
      refine AOps.run hT true rfl ?_ ?_
      · repeat' (first | exact trivial | exact Bool.not_or_self _ | refine And.intro ?_ ?_ | (simp; done) | (simp_all; done) | (simp [inR_i64] at *; omega))
      refine AOps.callF (T := T) rfl rfl rfl rfl rfl ?_ (AfterAnswer_fn cur (x.tmod 2 == 0) (bs.getD x.toNat default) h4) (.inl ⟨by repeat' (first | exact trivial | refine And.intro ?_ ?_ | intro _), by repeat' (first | exact trivial | refine And.intro ?_ ?_ | intro _)⟩) rfl ?_
      · repeat' (first | exact trivial | exact Bool.not_or_self _ | refine And.intro ?_ ?_ | (simp; done) | (simp_all; done) | (simp [inR_i64] at *; omega))
      refine AOps.run hT true rfl ?_ ?_
      · repeat' (first | exact trivial | exact Bool.not_or_self _ | refine And.intro ?_ ?_ | (simp; done) | (simp_all; done) | (simp [inR_i64] at *; omega))
      refine AOps.nil ?_
      repeat (with_reducible first | refine thenNil ?_ | refine blockNil ?_)
      refine AWp.region ?_
      refine AOps.run hT true rfl ?_ ?_
      · repeat' (first | exact trivial | exact Bool.not_or_self _ | refine And.intro ?_ ?_ | (simp; done) | (simp_all; done) | (simp [inR_i64] at *; omega))
      refine AOps.nil ?_
      repeat (with_reducible first | refine thenNil ?_ | refine blockNil ?_)
      refine Exists.intro ((x + 1, aft cur (x.tmod 2 == 0) (bs.getD x.toNat default))) (And.intro (And.intro ?_ ?_) (Exists.intro [1] ?_))
      · simp at *; omega
      · exact ⟨by omega, by omega, aft_len h4, by rw [h3, leftGo_step h0 hc1]⟩
      · refine ⟨?_, ?_, rfl, rfl, ⟨0, rfl, hfx⟩⟩
        · repeat' (first | exact SubR.nil | exact rfl | refine SubR.cons ?_ ?_)
        · repeat' (first | exact HRn.nil | exact objEq_refl _ | exact objEq_app1 | exact objEq_nil | exact objEq_mapP | exact objEq_mapI |  exact objEq_set (by first | omega | (simp; omega)) | exact objEq_appS (by simp) (appF_S rfl (fun _ _ => rfl)) | refine HRn.cons rfl ?_ ?_ | exact ObjRn.box rfl rfl | refine ObjRn.flat rfl ?_)
    · try simp only [decide_eq_true_eq, decide_eq_false_iff_not] at hc1
      refine AWp.exit ?_
      repeat (with_reducible first | refine thenExit ?_ | refine blockSame ?_ | refine blockOther rfl ?_ | refine thenNil ?_ | refine blockNil ?_)
      refine AWp.seq ?_
      refine AWp.region ?_
      refine AOps.run hT true rfl ?_ ?_
      · repeat' (first | exact trivial | exact Bool.not_or_self _ | refine And.intro ?_ ?_ | (simp; done) | (simp_all; done) | (simp [inR_i64] at *; omega))
      refine AOps.nil ?_
      repeat (with_reducible first | refine thenNil ?_ | refine blockNil ?_)
      refine AWp.ret ?_
      repeat (with_reducible first | refine thenRet ?_ | refine blockRet ?_)
      refine EndsIn.ret rfl ?_ ?_
      · repeat' (first | exact trivial | exact Bool.not_or_self _ | refine And.intro ?_ ?_ | (simp; done) | (simp_all; done) | (simp [inR_i64] at *; omega))
      refine ⟨[0], rfl, ⟨_, _, _, rfl, rfl, rfl, ?_, rfl⟩, rfl, rfl⟩
      rw [show leftF most bs = cur by unfold leftF; rw [if_pos (by omega), h3, List.drop_of_length_le (by omega)]; rfl]
      exact objEq_refl _

set_option maxRecDepth 20000 in
theorem sPairsLeft_fn (most : Int) (bs : List Bool) (hm : i64 most) (hb : bs.length ≤ 1048576) : AFn P 77 [ci most, lB bs] (.osl 0 none) [oP (leftF most bs)] := by
  refine AFn.of_body Tok 33 Go.Proofs.Try.func77 rfl rfl rfl (by simp) rfl ?_
  rintro ⟨_, _, w0, I0, O0, X0, fx⟩ rfl rfl hT hfx
  refine AWp.seq ?_
  refine AWp.region ?_
  refine AOps.run hT true rfl ?_ ?_
  · repeat' (first | exact trivial | exact Bool.not_or_self _ | refine And.intro ?_ ?_ | (simp; done) | (simp_all; done) | (simp [inR_i64] at *; omega))
  refine AOps.nil ?_
  repeat (with_reducible first | refine thenNil ?_ | refine blockNil ?_)
  refine AWp.seq ?_
  refine AWp.region ?_
  refine AOps.run hT true rfl ?_ ?_
  · repeat' (first | exact trivial | exact Bool.not_or_self _ | refine And.intro ?_ ?_ | (simp; done) | (simp_all; done) | (simp [inR_i64] at *; omega))
  refine AOps.callF (T := T) rfl rfl rfl rfl rfl ?_ (sAllPairs_fn most hm) (.inl ⟨by repeat' (first | exact trivial | refine And.intro ?_ ?_ | intro _), by repeat' (first | exact trivial | refine And.intro ?_ ?_ | intro _)⟩) rfl ?_
  · repeat' (first | exact trivial | exact Bool.not_or_self _ | refine And.intro ?_ ?_ | (simp; done) | (simp_all; done) | (simp [inR_i64] at *; omega))
  refine AOps.run hT true rfl ?_ ?_
  · repeat' (first | exact trivial | exact Bool.not_or_self _ | refine And.intro ?_ ?_ | (simp; done) | (simp_all; done) | (simp [inR_i64] at *; omega))
  refine AOps.nil ?_
  repeat (with_reducible first | refine thenNil ?_ | refine blockNil ?_)
  refine AWp.seq ?_
  refine AWp.seq ?_
  refine AWp.region ?_
  refine AOps.run hT true rfl ?_ ?_
  · repeat' (first | exact trivial | exact Bool.not_or_self _ | refine And.intro ?_ ?_ | (simp; done) | (simp_all; done) | (simp [inR_i64] at *; omega))
  refine AOps.nil ?_
  repeat (with_reducible first | refine thenNil ?_ | refine blockNil ?_)
  refine AWp.cond rfl ?_ (fun hc0 => ?_) (fun hc0 => ?_)
  · repeat' (first | exact trivial | exact Bool.not_or_self _ | refine And.intro ?_ ?_ | (simp; done) | (simp_all; done) | (simp [inR_i64] at *; omega))
  · try simp only [decide_eq_true_eq, decide_eq_false_iff_not] at hc0
    refine AWp.seq ?_
    refine AWp.region ?_
    refine AOps.run hT true rfl ?_ ?_
    · repeat' (first | exact trivial | exact Bool.not_or_self _ | refine And.intro ?_ ?_ | (simp; done) | (simp_all; done) | (simp [inR_i64] at *; omega))
    refine AOps.nil ?_
    repeat (with_reducible first | refine thenNil ?_ | refine blockNil ?_)
    refine AWp.adopt (k := 4) 25 2 nilP rfl ?_
    refine AWp.ret ?_
    repeat (with_reducible first | refine thenRet ?_ | refine blockRet ?_)
    refine EndsIn.ret rfl ?_ ?_
    · repeat' (first | exact trivial | exact Bool.not_or_self _ | refine And.intro ?_ ?_ | (simp; done) | (simp_all; done) | (simp [inR_i64] at *; omega))
    refine ⟨[1], rfl, ⟨_, _, _, rfl, rfl, rfl, ?_, rfl⟩, rfl, rfl⟩
    rw [show leftF most bs = [] by unfold leftF; split <;> first | rfl | (rename_i hle; rw [left_nil hc0 hle]; exact leftGo_nil _ _)]
    exact objEq_refl _
  · try simp only [decide_eq_true_eq, decide_eq_false_iff_not] at hc0
    refine AWp.skip ?_
    repeat (with_reducible first | refine thenNil ?_ | refine blockNil ?_)
    refine AWp.seq ?_
    refine AWp.seq ?_
    refine AWp.region ?_
    refine AOps.run hT true rfl ?_ ?_
    · repeat' (first | exact trivial | exact Bool.not_or_self _ | refine And.intro ?_ ?_ | (simp; done) | (simp_all; done) | (simp [inR_i64] at *; omega))
    refine AOps.nil ?_
    repeat (with_reducible first | refine thenNil ?_ | refine blockNil ?_)
    refine AWp.block ?_
    refine AWp.loopR (σ := Int × List (Int × Int)) (fun (x, _) => (bs.length - x).toNat) (fun (x, cur) => [(5, .osl 0 none), (18, .i (lB bs)), (19, .i (ci bs.length)), (20, .i (ci x))]) (fun (x, cur) => [oP cur]) (fun (x, cur) => 0 ≤ x ∧ x ≤ bs.length ∧ cur.length ≤ 1048576 ∧ leftGo 0 (allP most) bs = leftGo x cur (bs.drop x.toNat)) ((0, allP most)) [0] ?_ ?_ ?_
    · refine ⟨?_, ?_, rfl, rfl, ⟨0, rfl, hfx⟩⟩
      · repeat' (first | exact SubR.nil | exact rfl | refine SubR.cons ?_ ?_)
      · repeat' (first | exact HRn.nil | exact objEq_refl _ | exact objEq_app1 | exact objEq_nil | exact objEq_mapP | exact objEq_mapI |  exact objEq_set (by first | omega | (simp; omega)) | exact objEq_appS (by simp) (appF_S rfl (fun _ _ => rfl)) | refine HRn.cons rfl ?_ ?_ | exact ObjRn.box rfl rfl | refine ObjRn.flat rfl ?_)
    · exact ⟨by omega, by omega, allP_len most, rfl⟩
    rintro ⟨x, cur⟩ ⟨h0, h1, h4, h3⟩
    refine AWp.seq ?_
    refine AWp.region ?_
    refine AOps.run hT true rfl ?_ ?_
    · repeat' (first | exact trivial | exact Bool.not_or_self _ | refine And.intro ?_ ?_ | (simp; done) | (simp_all; done) | (simp [inR_i64] at *; omega))
    refine AOps.nil ?_
    repeat (with_reducible first | refine thenNil ?_ | refine blockNil ?_)
    refine AWp.seq ?_
    refine AWp.cond rfl ?_ (fun hc1 => ?_) (fun hc1 => ?_)
    · repeat' (first | exact trivial | exact Bool.not_or_self _ | refine And.intro ?_ ?_ | (simp; done) | (simp_all; done) | (simp [inR_i64] at *; omega))
    · try simp only [decide_eq_true_eq, decide_eq_false_iff_not] at hc1
      refine AWp.skip ?_
      repeat (with_reducible first | refine thenNil ?_ | refine blockNil ?_)
      refine AWp.seq ?_
      refine AWp.block ?_
      refine AWp.seq ?_
      refine AWp.region ?_
      refine AOps.run hT true rfl ?_ ?_
      · repeat' (first | exact trivial | exact Bool.not_or_self _ | refine And.intro ?_ ?_ | (simp; done) | (simp_all; done) | (simp [inR_i64] at *; omega))
      refine AOps.nil ?_
      repeat (with_reducible first | refine thenNil ?_ | refine blockNil ?_)
      refine AWp.region ?_
      refine AOps.run hT true rfl ?_ ?_
      · repeat' (first | exact trivial | exact Bool.not_or_self _ | refine And.intro ?_ ?_ | (simp; done) | (simp_all; done) | (simp [inR_i64] at *; omega))
      refine AOps.callF (T := T) rfl rfl rfl rfl rfl ?_ (sAfterAnswer_fn cur (x.tmod 2 == 0) (bs.getD x.toNat default) h4) (.inl ⟨by repeat' (first | exact trivial | refine And.intro ?_ ?_ | intro _), by repeat' (first | exact trivial | refine And.intro ?_ ?_ | intro _)⟩) rfl ?_
      · repeat' (first | exact trivial | exact Bool.not_or_self _ | refine And.intro ?_ ?_ | (simp; done) | (simp_all; done) | (simp [inR_i64] at *; omega))
      refine AOps.run hT true rfl ?_ ?_
      · repeat' (first | exact trivial | exact Bool.not_or_self _ | refine And.intro ?_ ?_ | (simp; done) | (simp_all; done) | (simp [inR_i64] at *; omega))
      refine AOps.nil ?_
      repeat (with_reducible first | refine thenNil ?_ | refine blockNil ?_)
      refine AWp.region ?_
      refine AOps.run hT true rfl ?_ ?_
      · repeat' (first | exact trivial | exact Bool.not_or_self _ | refine And.intro ?_ ?_ | (simp; done) | (simp_all; done) | (simp [inR_i64] at *; omega))
      refine AOps.nil ?_
      repeat (with_reducible first | refine thenNil ?_ | refine blockNil ?_)
      refine Exists.intro ((x + 1, aft cur (x.tmod 2 == 0) (bs.getD x.toNat default))) (And.intro (And.intro ?_ ?_) (Exists.intro [1] ?_))
      · simp at *; omega
      · exact ⟨by omega, by omega, aft_len h4, by rw [h3, leftGo_step h0 hc1]⟩
      · refine ⟨?_, ?_, rfl, rfl, ⟨0, rfl, hfx⟩⟩
        · repeat' (first | exact SubR.nil | exact rfl | refine SubR.cons ?_ ?_)
        · repeat' (first | exact HRn.nil | exact objEq_refl _ | exact objEq_app1 | exact objEq_nil | exact objEq_mapP | exact objEq_mapI |  exact objEq_set (by first | omega | (simp; omega)) | exact objEq_appS (by simp) (appF_S rfl (fun _ _ => rfl)) | refine HRn.cons rfl ?_ ?_ | exact ObjRn.box rfl rfl | refine ObjRn.flat rfl ?_)
    · try simp only [decide_eq_true_eq, decide_eq_false_iff_not] at hc1
      refine AWp.exit ?_
      repeat (with_reducible first | refine thenExit ?_ | refine blockSame ?_ | refine blockOther rfl ?_ | refine thenNil ?_ | refine blockNil ?_)
      refine AWp.seq ?_
      refine AWp.region ?_
      refine AOps.run hT true rfl ?_ ?_
      · repeat' (first | exact trivial | exact Bool.not_or_self _ | refine And.intro ?_ ?_ | (simp; done) | (simp_all; done) | (simp [inR_i64] at *; omega))
      refine AOps.nil ?_
      repeat (with_reducible first | refine thenNil ?_ | refine blockNil ?_)
      refine AWp.ret ?_
      repeat (with_reducible first | refine thenRet ?_ | refine blockRet ?_)
      refine EndsIn.ret rfl ?_ ?_
      · repeat' (first | exact trivial | exact Bool.not_or_self _ | refine And.intro ?_ ?_ | (simp; done) | (simp_all; done) | (simp [inR_i64] at *; omega))
      refine ⟨[0], rfl, ⟨_, _, _, rfl, rfl, rfl, ?_, rfl⟩, rfl, rfl⟩
      rw [show leftF most bs = cur by unfold leftF; rw [if_pos (left_le hc0), h3, List.drop_of_length_le (by omega)]; rfl]
      exact objEq_refl _

set_option maxRecDepth 20000 in
theorem law17 (most : Int) (p : Int × Int) (hm : i64 most) : AFn P 17 [ci most, cpair p] (.i (cb true)) [] := by
  refine AFn.of_body Tok 18 Go.Proofs.Try.func17 rfl rfl rfl (by simp) rfl ?_
  rintro ⟨_, _, w0, I0, O0, X0, fx⟩ rfl rfl hT hfx
  refine AWp.seq ?_
  refine AWp.region ?_
  refine AOps.run hT true rfl ?_ ?_
  · repeat' (first | exact trivial | exact Bool.not_or_self _ | refine And.intro ?_ ?_ | (simp; done) | (simp_all; done) | (simp [inR_i64] at *; omega))
  refine AOps.nil ?_
  repeat (with_reducible first | refine thenNil ?_ | refine blockNil ?_)
  refine AWp.seq ?_
  refine AWp.region ?_
  refine AOps.run hT true rfl ?_ ?_
  · repeat' (first | exact trivial | exact Bool.not_or_self _ | refine And.intro ?_ ?_ | (simp; done) | (simp_all; done) | (simp [inR_i64] at *; omega))
  refine AOps.callF (T := T) rfl rfl rfl rfl rfl ?_ (toPair_fn p) (.inl ⟨by repeat' (first | exact trivial | refine And.intro ?_ ?_ | intro _), by repeat' (first | exact trivial | refine And.intro ?_ ?_ | intro _)⟩) rfl ?_
  · repeat' (first | exact trivial | exact Bool.not_or_self _ | refine And.intro ?_ ?_ | (simp; done) | (simp_all; done) | (simp [inR_i64] at *; omega))
  refine AOps.callF (T := T) rfl rfl rfl rfl rfl ?_ (sTurnOf_fn most p hm) (.inl ⟨by repeat' (first | exact trivial | refine And.intro ?_ ?_ | intro _), by repeat' (first | exact trivial | refine And.intro ?_ ?_ | intro _)⟩) rfl ?_
  · repeat' (first | exact trivial | exact Bool.not_or_self _ | refine And.intro ?_ ?_ | (simp; done) | (simp_all; done) | (simp [inR_i64] at *; omega))
  refine AOps.run hT true rfl ?_ ?_
  · repeat' (first | exact trivial | exact Bool.not_or_self _ | refine And.intro ?_ ?_ | (simp; done) | (simp_all; done) | (simp [inR_i64] at *; omega))
  refine AOps.nil ?_
  repeat (with_reducible first | refine thenNil ?_ | refine blockNil ?_)
  refine AWp.seq ?_
  refine AWp.region ?_
  refine AOps.run hT true rfl ?_ ?_
  · repeat' (first | exact trivial | exact Bool.not_or_self _ | refine And.intro ?_ ?_ | (simp; done) | (simp_all; done) | (simp [inR_i64] at *; omega))
  refine AOps.callF (T := T) rfl rfl rfl rfl rfl ?_ (toPair_fn p) (.inl ⟨by repeat' (first | exact trivial | refine And.intro ?_ ?_ | intro _), by repeat' (first | exact trivial | refine And.intro ?_ ?_ | intro _)⟩) rfl ?_
  · repeat' (first | exact trivial | exact Bool.not_or_self _ | refine And.intro ?_ ?_ | (simp; done) | (simp_all; done) | (simp [inR_i64] at *; omega))
  refine AOps.callF (T := T) rfl rfl rfl rfl rfl ?_ (TurnOf_fn most p hm) (.inl ⟨by repeat' (first | exact trivial | refine And.intro ?_ ?_ | intro _), by repeat' (first | exact trivial | refine And.intro ?_ ?_ | intro _)⟩) rfl ?_
  · repeat' (first | exact trivial | exact Bool.not_or_self _ | refine And.intro ?_ ?_ | (simp; done) | (simp_all; done) | (simp [inR_i64] at *; omega))
  refine AOps.run hT true rfl ?_ ?_
  · repeat' (first | exact trivial | exact Bool.not_or_self _ | refine And.intro ?_ ?_ | (simp; done) | (simp_all; done) | (simp [inR_i64] at *; omega))
  refine AOps.nil ?_
  repeat (with_reducible first | refine thenNil ?_ | refine blockNil ?_)
  refine AWp.seq ?_
  refine AWp.seq ?_
  refine AWp.region ?_
  refine AOps.run hT true rfl ?_ ?_
  · repeat' (first | exact trivial | exact Bool.not_or_self _ | refine And.intro ?_ ?_ | (simp; done) | (simp_all; done) | (simp [inR_i64] at *; omega))
  refine AOps.nil ?_
  repeat (with_reducible first | refine thenNil ?_ | refine blockNil ?_)
  refine AWp.cond rfl ?_ (fun hc0 => ?_) (fun hc0 => ?_)
  · repeat' (first | exact trivial | exact Bool.not_or_self _ | refine And.intro ?_ ?_ | (simp; done) | (simp_all; done) | (simp [inR_i64] at *; omega))
  · simp at hc0
  · try simp only [decide_eq_true_eq, decide_eq_false_iff_not] at hc0
    refine AWp.skip ?_
    repeat (with_reducible first | refine thenNil ?_ | refine blockNil ?_)
    refine AWp.seq ?_
    refine AWp.region ?_
    refine AOps.run hT true rfl ?_ ?_
    · repeat' (first | exact trivial | exact Bool.not_or_self _ | refine And.intro ?_ ?_ | (simp; done) | (simp_all; done) | (simp [inR_i64] at *; omega))
    refine AOps.nil ?_
    repeat (with_reducible first | refine thenNil ?_ | refine blockNil ?_)
    refine AWp.ret ?_
    repeat (with_reducible first | refine thenRet ?_ | refine blockRet ?_)
    refine EndsIn.ret rfl ?_ ?_
    · repeat' (first | exact trivial | exact Bool.not_or_self _ | refine And.intro ?_ ?_ | (simp; done) | (simp_all; done) | (simp [inR_i64] at *; omega))
    refine ⟨[], ?_, rfl, rfl, rfl⟩
    rfl

set_option maxRecDepth 20000 in
set_option maxHeartbeats 2000000 in
theorem law19 (most : Int) (p : Int × Int) (hm : i64 most) : AFn P 19 [ci most, cpair p] (.i (cb true)) [] := by
  refine AFn.of_body Tok 71 Go.Proofs.Try.func19 rfl rfl rfl (by simp) rfl ?_
  rintro ⟨_, _, w0, I0, O0, X0, fx⟩ rfl rfl hT hfx
  have hl : (ansL most p).length ≤ 1048576 := Nat.le_trans (ansL_len most p) (by decide)
  refine AWp.seq ?_
  refine AWp.region ?_
  refine AOps.run hT true rfl ?_ ?_
  · repeat' (first | exact trivial | exact Bool.not_or_self _ | refine And.intro ?_ ?_ | (simp; done) | (simp_all; done) | (simp [inR_i64] at *; omega))
  refine AOps.nil ?_
  repeat (with_reducible first | refine thenNil ?_ | refine blockNil ?_)
  refine AWp.seq ?_
  refine AWp.region ?_
  refine AOps.run hT true rfl ?_ ?_
  · repeat' (first | exact trivial | exact Bool.not_or_self _ | refine And.intro ?_ ?_ | (simp; done) | (simp_all; done) | (simp [inR_i64] at *; omega))
  refine AOps.callF (T := T) rfl rfl rfl rfl rfl ?_ (toPair_fn p) (.inl ⟨by repeat' (first | exact trivial | refine And.intro ?_ ?_ | intro _), by repeat' (first | exact trivial | refine And.intro ?_ ?_ | intro _)⟩) rfl ?_
  · repeat' (first | exact trivial | exact Bool.not_or_self _ | refine And.intro ?_ ?_ | (simp; done) | (simp_all; done) | (simp [inR_i64] at *; omega))
  refine AOps.callF (T := T) rfl rfl rfl rfl rfl ?_ (sAnswersFor_fn most p hm) (.inl ⟨by repeat' (first | exact trivial | refine And.intro ?_ ?_ | intro _), by repeat' (first | exact trivial | refine And.intro ?_ ?_ | intro _)⟩) rfl ?_
  · repeat' (first | exact trivial | exact Bool.not_or_self _ | refine And.intro ?_ ?_ | (simp; done) | (simp_all; done) | (simp [inR_i64] at *; omega))
  refine AOps.run hT true rfl ?_ ?_
  · repeat' (first | exact trivial | exact Bool.not_or_self _ | refine And.intro ?_ ?_ | (simp; done) | (simp_all; done) | (simp [inR_i64] at *; omega))
  refine AOps.nil ?_
  repeat (with_reducible first | refine thenNil ?_ | refine blockNil ?_)
  refine AWp.seq ?_
  refine AWp.region ?_
  refine AOps.run hT true rfl ?_ ?_
  · repeat' (first | exact trivial | exact Bool.not_or_self _ | refine And.intro ?_ ?_ | (simp; done) | (simp_all; done) | (simp [inR_i64] at *; omega))
  refine AOps.callF (T := T) rfl rfl rfl rfl rfl ?_ (toPair_fn p) (.inl ⟨by repeat' (first | exact trivial | refine And.intro ?_ ?_ | intro _), by repeat' (first | exact trivial | refine And.intro ?_ ?_ | intro _)⟩) rfl ?_
  · repeat' (first | exact trivial | exact Bool.not_or_self _ | refine And.intro ?_ ?_ | (simp; done) | (simp_all; done) | (simp [inR_i64] at *; omega))
  refine AOps.callF (T := T) rfl rfl rfl rfl rfl ?_ (AnswersFor_fn most p hm) (.inl ⟨by repeat' (first | exact trivial | refine And.intro ?_ ?_ | intro _), by repeat' (first | exact trivial | refine And.intro ?_ ?_ | intro _)⟩) rfl ?_
  · repeat' (first | exact trivial | exact Bool.not_or_self _ | refine And.intro ?_ ?_ | (simp; done) | (simp_all; done) | (simp [inR_i64] at *; omega))
  refine AOps.run hT true rfl ?_ ?_
  · repeat' (first | exact trivial | exact Bool.not_or_self _ | refine And.intro ?_ ?_ | (simp; done) | (simp_all; done) | (simp [inR_i64] at *; omega))
  refine AOps.nil ?_
  repeat (with_reducible first | refine thenNil ?_ | refine blockNil ?_)
  refine AWp.seq ?_
  refine AWp.seq ?_
  refine AWp.region ?_
  refine AOps.run hT true rfl ?_ ?_
  · repeat' (first | exact trivial | exact Bool.not_or_self _ | refine And.intro ?_ ?_ | (simp; done) | (simp_all; done) | (simp [inR_i64] at *; omega))
  refine AOps.callF (T := T) rfl rfl rfl rfl rfl ?_ (eqBoolS_fn (ansL most p) hl) (.inl ⟨by repeat' (first | exact trivial | refine And.intro ?_ ?_ | intro _), by repeat' (first | exact trivial | refine And.intro ?_ ?_ | intro _)⟩) rfl ?_
  · repeat' (first | exact trivial | exact Bool.not_or_self _ | refine And.intro ?_ ?_ | (simp; done) | (simp_all; done) | (simp [inR_i64] at *; omega))
  refine AOps.run hT true rfl ?_ ?_
  · repeat' (first | exact trivial | exact Bool.not_or_self _ | refine And.intro ?_ ?_ | (simp; done) | (simp_all; done) | (simp [inR_i64] at *; omega))
  refine AOps.nil ?_
  repeat (with_reducible first | refine thenNil ?_ | refine blockNil ?_)
  refine AWp.cond rfl ?_ (fun hc0 => ?_) (fun hc0 => ?_)
  · repeat' (first | exact trivial | exact Bool.not_or_self _ | refine And.intro ?_ ?_ | (simp; done) | (simp_all; done) | (simp [inR_i64] at *; omega))
  · simp at hc0
  · try simp only [decide_eq_true_eq, decide_eq_false_iff_not] at hc0
    refine AWp.skip ?_
    repeat (with_reducible first | refine thenNil ?_ | refine blockNil ?_)
    refine AWp.seq ?_
    refine AWp.region ?_
    refine AOps.run hT true rfl ?_ ?_
    · repeat' (first | exact trivial | exact Bool.not_or_self _ | refine And.intro ?_ ?_ | (simp; done) | (simp_all; done) | (simp [inR_i64] at *; omega))
    refine AOps.nil ?_
    repeat (with_reducible first | refine thenNil ?_ | refine blockNil ?_)
    refine AWp.seq ?_
    refine AWp.region ?_
    refine AOps.run hT true rfl ?_ ?_
    · repeat' (first | exact trivial | exact Bool.not_or_self _ | refine And.intro ?_ ?_ | (simp; done) | (simp_all; done) | (simp [inR_i64] at *; omega))
    refine AOps.callH (T := T) [2] rfl rfl rfl rfl rfl rfl ?_ (markBoolS_fn (ansL most p) hl) (.inl ⟨by repeat' (first | exact trivial | refine And.intro ?_ ?_ | intro _), by repeat' (first | exact trivial | refine And.intro ?_ ?_ | intro _)⟩) rfl rfl ?_
    · repeat' (first | exact trivial | exact Bool.not_or_self _ | refine And.intro ?_ ?_ | (simp; done) | (simp_all; done) | (simp [inR_i64] at *; omega))
    refine AOps.run hT true rfl ?_ ?_
    · repeat' (first | exact trivial | exact Bool.not_or_self _ | refine And.intro ?_ ?_ | (simp; done) | (simp_all; done) | (simp [inR_i64] at *; omega))
    refine AOps.nil ?_
    repeat (with_reducible first | refine thenNil ?_ | refine blockNil ?_)
    refine AWp.seq ?_
    refine AWp.region ?_
    refine AOps.run hT true rfl ?_ ?_
    · repeat' (first | exact trivial | exact Bool.not_or_self _ | refine And.intro ?_ ?_ | (simp; done) | (simp_all; done) | (simp [inR_i64] at *; omega))
    refine AOps.nil ?_
    repeat (with_reducible first | refine thenNil ?_ | refine blockNil ?_)
    refine AWp.seq ?_
    refine AWp.region ?_
    refine AOps.run hT true rfl ?_ ?_
    · repeat' (first | exact trivial | exact Bool.not_or_self _ | refine And.intro ?_ ?_ | (simp; done) | (simp_all; done) | (simp [inR_i64] at *; omega))
    refine AOps.callF (T := T) rfl rfl rfl rfl rfl ?_ (heldBoolS_fn (ansL most p).length hl) (.inl ⟨by repeat' (first | exact trivial | refine And.intro ?_ ?_ | intro _), by repeat' (first | exact trivial | refine And.intro ?_ ?_ | intro _)⟩) rfl ?_
    · repeat' (first | exact trivial | exact Bool.not_or_self _ | refine And.intro ?_ ?_ | (simp; done) | (simp_all; done) | (simp [inR_i64] at *; omega))
    refine AOps.run hT true rfl ?_ ?_
    · repeat' (first | exact trivial | exact Bool.not_or_self _ | refine And.intro ?_ ?_ | (simp; done) | (simp_all; done) | (simp [inR_i64] at *; omega))
    refine AOps.nil ?_
    repeat (with_reducible first | refine thenNil ?_ | refine blockNil ?_)
    refine AWp.seq ?_
    refine AWp.seq ?_
    refine AWp.region ?_
    refine AOps.run hT true rfl ?_ ?_
    · repeat' (first | exact trivial | exact Bool.not_or_self _ | refine And.intro ?_ ?_ | (simp; done) | (simp_all; done) | (simp [inR_i64] at *; omega))
    refine AOps.nil ?_
    repeat (with_reducible first | refine thenNil ?_ | refine blockNil ?_)
    refine AWp.cond rfl ?_ (fun hc1 => ?_) (fun hc1 => ?_)
    · repeat' (first | exact trivial | exact Bool.not_or_self _ | refine And.intro ?_ ?_ | (simp; done) | (simp_all; done) | (simp [inR_i64] at *; omega))
    · simp at hc1 <;> omega
    · try simp only [decide_eq_true_eq, decide_eq_false_iff_not] at hc1
      refine AWp.skip ?_
      repeat (with_reducible first | refine thenNil ?_ | refine blockNil ?_)
      refine AWp.seq ?_
      refine AWp.seq ?_
      refine AWp.region ?_
      refine AOps.run hT true rfl ?_ ?_
      · repeat' (first | exact trivial | exact Bool.not_or_self _ | refine And.intro ?_ ?_ | (simp; done) | (simp_all; done) | (simp [inR_i64] at *; omega))
      refine AOps.nil ?_
      repeat (with_reducible first | refine thenNil ?_ | refine blockNil ?_)
      refine AWp.cond rfl ?_ (fun hc2 => ?_) (fun hc2 => ?_)
      · repeat' (first | exact trivial | exact Bool.not_or_self _ | refine And.intro ?_ ?_ | (simp; done) | (simp_all; done) | (simp [inR_i64] at *; omega))
      · simp at hc2
      · try simp only [decide_eq_true_eq, decide_eq_false_iff_not] at hc2
        refine AWp.skip ?_
        repeat (with_reducible first | refine thenNil ?_ | refine blockNil ?_)
        refine AWp.seq ?_
        refine AWp.region ?_
        refine AOps.run hT true rfl ?_ ?_
        · repeat' (first | exact trivial | exact Bool.not_or_self _ | refine And.intro ?_ ?_ | (simp; done) | (simp_all; done) | (simp [inR_i64] at *; omega))
        refine AOps.callF (T := T) rfl rfl rfl rfl rfl ?_ (toPair_fn p) (.inl ⟨by repeat' (first | exact trivial | refine And.intro ?_ ?_ | intro _), by repeat' (first | exact trivial | refine And.intro ?_ ?_ | intro _)⟩) rfl ?_
        · repeat' (first | exact trivial | exact Bool.not_or_self _ | refine And.intro ?_ ?_ | (simp; done) | (simp_all; done) | (simp [inR_i64] at *; omega))
        refine AOps.callF (T := T) rfl rfl rfl rfl rfl ?_ (AnswersFor_fn most p hm) (.inl ⟨by repeat' (first | exact trivial | refine And.intro ?_ ?_ | intro _), by repeat' (first | exact trivial | refine And.intro ?_ ?_ | intro _)⟩) rfl ?_
        · repeat' (first | exact trivial | exact Bool.not_or_self _ | refine And.intro ?_ ?_ | (simp; done) | (simp_all; done) | (simp [inR_i64] at *; omega))
        refine AOps.run hT true rfl ?_ ?_
        · repeat' (first | exact trivial | exact Bool.not_or_self _ | refine And.intro ?_ ?_ | (simp; done) | (simp_all; done) | (simp [inR_i64] at *; omega))
        refine AOps.nil ?_
        repeat (with_reducible first | refine thenNil ?_ | refine blockNil ?_)
        refine AWp.seq ?_
        refine AWp.seq ?_
        refine AWp.region ?_
        refine AOps.run hT true rfl ?_ ?_
        · repeat' (first | exact trivial | exact Bool.not_or_self _ | refine And.intro ?_ ?_ | (simp; done) | (simp_all; done) | (simp [inR_i64] at *; omega))
        refine AOps.callF (T := T) rfl rfl rfl rfl rfl ?_ (eqBoolS_fn (ansL most p) hl) (.inl ⟨by repeat' (first | exact trivial | refine And.intro ?_ ?_ | intro _), by repeat' (first | exact trivial | refine And.intro ?_ ?_ | intro _)⟩) rfl ?_
        · repeat' (first | exact trivial | exact Bool.not_or_self _ | refine And.intro ?_ ?_ | (simp; done) | (simp_all; done) | (simp [inR_i64] at *; omega))
        refine AOps.run hT true rfl ?_ ?_
        · repeat' (first | exact trivial | exact Bool.not_or_self _ | refine And.intro ?_ ?_ | (simp; done) | (simp_all; done) | (simp [inR_i64] at *; omega))
        refine AOps.nil ?_
        repeat (with_reducible first | refine thenNil ?_ | refine blockNil ?_)
        refine AWp.cond rfl ?_ (fun hc3 => ?_) (fun hc3 => ?_)
        · repeat' (first | exact trivial | exact Bool.not_or_self _ | refine And.intro ?_ ?_ | (simp; done) | (simp_all; done) | (simp [inR_i64] at *; omega))
        · simp at hc3
        · try simp only [decide_eq_true_eq, decide_eq_false_iff_not] at hc3
          refine AWp.skip ?_
          repeat (with_reducible first | refine thenNil ?_ | refine blockNil ?_)
          refine AWp.seq ?_
          refine AWp.region ?_
          refine AOps.run hT true rfl ?_ ?_
          · repeat' (first | exact trivial | exact Bool.not_or_self _ | refine And.intro ?_ ?_ | (simp; done) | (simp_all; done) | (simp [inR_i64] at *; omega))
          refine AOps.nil ?_
          repeat (with_reducible first | refine thenNil ?_ | refine blockNil ?_)
          refine AWp.seq ?_
          refine AWp.region ?_
          refine AOps.run hT true rfl ?_ ?_
          · repeat' (first | exact trivial | exact Bool.not_or_self _ | refine And.intro ?_ ?_ | (simp; done) | (simp_all; done) | (simp [inR_i64] at *; omega))
          refine AOps.callF (T := T) rfl rfl rfl rfl rfl ?_ (heldBoolS_fn (ansL most p).length hl) (.inl ⟨by repeat' (first | exact trivial | refine And.intro ?_ ?_ | intro _), by repeat' (first | exact trivial | refine And.intro ?_ ?_ | intro _)⟩) rfl ?_
          · repeat' (first | exact trivial | exact Bool.not_or_self _ | refine And.intro ?_ ?_ | (simp; done) | (simp_all; done) | (simp [inR_i64] at *; omega))
          refine AOps.run hT true rfl ?_ ?_
          · repeat' (first | exact trivial | exact Bool.not_or_self _ | refine And.intro ?_ ?_ | (simp; done) | (simp_all; done) | (simp [inR_i64] at *; omega))
          refine AOps.nil ?_
          repeat (with_reducible first | refine thenNil ?_ | refine blockNil ?_)
          refine AWp.seq ?_
          refine AWp.seq ?_
          refine AWp.region ?_
          refine AOps.run hT true rfl ?_ ?_
          · repeat' (first | exact trivial | exact Bool.not_or_self _ | refine And.intro ?_ ?_ | (simp; done) | (simp_all; done) | (simp [inR_i64] at *; omega))
          refine AOps.nil ?_
          repeat (with_reducible first | refine thenNil ?_ | refine blockNil ?_)
          refine AWp.cond rfl ?_ (fun hc4 => ?_) (fun hc4 => ?_)
          · repeat' (first | exact trivial | exact Bool.not_or_self _ | refine And.intro ?_ ?_ | (simp; done) | (simp_all; done) | (simp [inR_i64] at *; omega))
          · simp at hc4 <;> omega
          · try simp only [decide_eq_true_eq, decide_eq_false_iff_not] at hc4
            refine AWp.skip ?_
            repeat (with_reducible first | refine thenNil ?_ | refine blockNil ?_)
            refine AWp.seq ?_
            refine AWp.seq ?_
            refine AWp.region ?_
            refine AOps.run hT true rfl ?_ ?_
            · repeat' (first | exact trivial | exact Bool.not_or_self _ | refine And.intro ?_ ?_ | (simp; done) | (simp_all; done) | (simp [inR_i64] at *; omega))
            refine AOps.nil ?_
            repeat (with_reducible first | refine thenNil ?_ | refine blockNil ?_)
            refine AWp.cond rfl ?_ (fun hc5 => ?_) (fun hc5 => ?_)
            · repeat' (first | exact trivial | exact Bool.not_or_self _ | refine And.intro ?_ ?_ | (simp; done) | (simp_all; done) | (simp [inR_i64] at *; omega))
            · simp at hc5
            · try simp only [decide_eq_true_eq, decide_eq_false_iff_not] at hc5
              refine AWp.skip ?_
              repeat (with_reducible first | refine thenNil ?_ | refine blockNil ?_)
              refine AWp.seq ?_
              refine AWp.region ?_
              refine AOps.run hT true rfl ?_ ?_
              · repeat' (first | exact trivial | exact Bool.not_or_self _ | refine And.intro ?_ ?_ | (simp; done) | (simp_all; done) | (simp [inR_i64] at *; omega))
              refine AOps.nil ?_
              repeat (with_reducible first | refine thenNil ?_ | refine blockNil ?_)
              refine AWp.ret ?_
              repeat (with_reducible first | refine thenRet ?_ | refine blockRet ?_)
              refine EndsIn.ret rfl ?_ ?_
              · repeat' (first | exact trivial | exact Bool.not_or_self _ | refine And.intro ?_ ?_ | (simp; done) | (simp_all; done) | (simp [inR_i64] at *; omega))
              refine ⟨[], ?_, rfl, rfl, rfl⟩
              rfl

set_option maxRecDepth 20000 in
set_option maxHeartbeats 2000000 in
theorem law21 (most : Int) (bs : List Bool) (hm : i64 most) (hb0 : bs.length ≤ maxLen) : AFn P 21 [ci most, lB bs] (.i (cb true)) [] := by
  refine AFn.of_body Tok 71 Go.Proofs.Try.func21 rfl rfl rfl (by simp) rfl ?_
  rintro ⟨_, _, w0, I0, O0, X0, fx⟩ rfl rfl hT hfx
  refine AWp.seq ?_
  refine AWp.region ?_
  refine AOps.run hT true rfl ?_ ?_
  · repeat' (first | exact trivial | exact Bool.not_or_self _ | refine And.intro ?_ ?_ | (simp; done) | (simp_all; done) | (simp [inR_i64] at *; omega))
  refine AOps.nil ?_
  repeat (with_reducible first | refine thenNil ?_ | refine blockNil ?_)
  refine AWp.seq ?_
  refine AWp.seq ?_
  refine AWp.region ?_
  refine AOps.run hT true rfl ?_ ?_
  · repeat' (first | exact trivial | exact Bool.not_or_self _ | refine And.intro ?_ ?_ | (simp; done) | (simp_all; done) | (simp [inR_i64] at *; omega))
  refine AOps.nil ?_
  repeat (with_reducible first | refine thenNil ?_ | refine blockNil ?_)
  refine AWp.cond rfl ?_ (fun hc0 => ?_) (fun hc0 => ?_)
  · repeat' (first | exact trivial | exact Bool.not_or_self _ | refine And.intro ?_ ?_ | (simp; done) | (simp_all; done) | (simp [inR_i64] at *; omega))
  · try simp only [decide_eq_true_eq, decide_eq_false_iff_not] at hc0
    refine AWp.seq ?_
    skip
    refine AWp.region ?_
    refine AOps.run hT true rfl ?_ ?_
    · repeat' (first | exact trivial | exact Bool.not_or_self _ | refine And.intro ?_ ?_ | (simp; done) | (simp_all; done) | (simp [inR_i64] at *; omega))
    refine AOps.nil ?_
    repeat (with_reducible first | refine thenNil ?_ | refine blockNil ?_)
    refine AWp.ret ?_
    repeat (with_reducible first | refine thenRet ?_ | refine blockRet ?_)
    refine EndsIn.ret rfl ?_ ?_
    · repeat' (first | exact trivial | exact Bool.not_or_self _ | refine And.intro ?_ ?_ | (simp; done) | (simp_all; done) | (simp [inR_i64] at *; omega))
    refine ⟨[], ?_, rfl, rfl, rfl⟩
    rfl
  · try simp only [decide_eq_true_eq, decide_eq_false_iff_not] at hc0
    refine AWp.skip ?_
    repeat (with_reducible first | refine thenNil ?_ | refine blockNil ?_)
    refine AWp.seq ?_
    have hb : bs.length ≤ 1048576 := by omega
    have hl3 : (leftF most bs).length ≤ 1048576 := leftF_len most bs
    refine AWp.region ?_
    refine AOps.run hT true rfl ?_ ?_
    · repeat' (first | exact trivial | exact Bool.not_or_self _ | refine And.intro ?_ ?_ | (simp; done) | (simp_all; done) | (simp [inR_i64] at *; omega))
    refine AOps.callF (T := T) rfl rfl rfl rfl rfl ?_ (toBoolS_fn bs hb) (.inl ⟨by repeat' (first | exact trivial | refine And.intro ?_ ?_ | intro _), by repeat' (first | exact trivial | refine And.intro ?_ ?_ | intro _)⟩) rfl ?_
    · repeat' (first | exact trivial | exact Bool.not_or_self _ | refine And.intro ?_ ?_ | (simp; done) | (simp_all; done) | (simp [inR_i64] at *; omega))
    refine AOps.callF (T := T) rfl rfl rfl rfl rfl ?_ (sPairsLeft_fn most bs hm hb) (.inl ⟨by repeat' (first | exact trivial | refine And.intro ?_ ?_ | intro _), by repeat' (first | exact trivial | refine And.intro ?_ ?_ | intro _)⟩) rfl ?_
    · repeat' (first | exact trivial | exact Bool.not_or_self _ | refine And.intro ?_ ?_ | (simp; done) | (simp_all; done) | (simp [inR_i64] at *; omega))
    refine AOps.run hT true rfl ?_ ?_
    · repeat' (first | exact trivial | exact Bool.not_or_self _ | refine And.intro ?_ ?_ | (simp; done) | (simp_all; done) | (simp [inR_i64] at *; omega))
    refine AOps.nil ?_
    repeat (with_reducible first | refine thenNil ?_ | refine blockNil ?_)
    refine AWp.seq ?_
    refine AWp.region ?_
    refine AOps.run hT true rfl ?_ ?_
    · repeat' (first | exact trivial | exact Bool.not_or_self _ | refine And.intro ?_ ?_ | (simp; done) | (simp_all; done) | (simp [inR_i64] at *; omega))
    refine AOps.callF (T := T) rfl rfl rfl rfl rfl ?_ (toBoolS_fn bs hb) (.inl ⟨by repeat' (first | exact trivial | refine And.intro ?_ ?_ | intro _), by repeat' (first | exact trivial | refine And.intro ?_ ?_ | intro _)⟩) rfl ?_
    · repeat' (first | exact trivial | exact Bool.not_or_self _ | refine And.intro ?_ ?_ | (simp; done) | (simp_all; done) | (simp [inR_i64] at *; omega))
    refine AOps.run hT true rfl ?_ ?_
    · repeat' (first | exact trivial | exact Bool.not_or_self _ | refine And.intro ?_ ?_ | (simp; done) | (simp_all; done) | (simp [inR_i64] at *; omega))
    refine AOps.nil ?_
    repeat (with_reducible first | refine thenNil ?_ | refine blockNil ?_)
    refine AWp.seq ?_
    refine AWp.region ?_
    refine AOps.run hT true rfl ?_ ?_
    · repeat' (first | exact trivial | exact Bool.not_or_self _ | refine And.intro ?_ ?_ | (simp; done) | (simp_all; done) | (simp [inR_i64] at *; omega))
    refine AOps.callF (T := T) rfl rfl rfl rfl rfl ?_ (PairsLeft_fn most bs hm hb) (.inl ⟨by repeat' (first | exact trivial | refine And.intro ?_ ?_ | intro _), by repeat' (first | exact trivial | refine And.intro ?_ ?_ | intro _)⟩) rfl ?_
    · repeat' (first | exact trivial | exact Bool.not_or_self _ | refine And.intro ?_ ?_ | (simp; done) | (simp_all; done) | (simp [inR_i64] at *; omega))
    refine AOps.run hT true rfl ?_ ?_
    · repeat' (first | exact trivial | exact Bool.not_or_self _ | refine And.intro ?_ ?_ | (simp; done) | (simp_all; done) | (simp [inR_i64] at *; omega))
    refine AOps.nil ?_
    repeat (with_reducible first | refine thenNil ?_ | refine blockNil ?_)
    refine AWp.seq ?_
    refine AWp.seq ?_
    refine AWp.region ?_
    refine AOps.run hT true rfl ?_ ?_
    · repeat' (first | exact trivial | exact Bool.not_or_self _ | refine And.intro ?_ ?_ | (simp; done) | (simp_all; done) | (simp [inR_i64] at *; omega))
    refine AOps.callF (T := T) rfl rfl rfl rfl rfl ?_ (eqPairS_fn (leftF most bs) hl3) (.inl ⟨by repeat' (first | exact trivial | refine And.intro ?_ ?_ | intro _), by repeat' (first | exact trivial | refine And.intro ?_ ?_ | intro _)⟩) rfl ?_
    · repeat' (first | exact trivial | exact Bool.not_or_self _ | refine And.intro ?_ ?_ | (simp; done) | (simp_all; done) | (simp [inR_i64] at *; omega))
    refine AOps.run hT true rfl ?_ ?_
    · repeat' (first | exact trivial | exact Bool.not_or_self _ | refine And.intro ?_ ?_ | (simp; done) | (simp_all; done) | (simp [inR_i64] at *; omega))
    refine AOps.nil ?_
    repeat (with_reducible first | refine thenNil ?_ | refine blockNil ?_)
    refine AWp.cond rfl ?_ (fun hc1 => ?_) (fun hc1 => ?_)
    · repeat' (first | exact trivial | exact Bool.not_or_self _ | refine And.intro ?_ ?_ | (simp; done) | (simp_all; done) | (simp [inR_i64] at *; omega))
    · simp at hc1
    · try simp only [decide_eq_true_eq, decide_eq_false_iff_not] at hc1
      refine AWp.skip ?_
      repeat (with_reducible first | refine thenNil ?_ | refine blockNil ?_)
      refine AWp.seq ?_
      refine AWp.seq ?_
      refine AWp.region ?_
      refine AOps.run hT true rfl ?_ ?_
      · repeat' (first | exact trivial | exact Bool.not_or_self _ | refine And.intro ?_ ?_ | (simp; done) | (simp_all; done) | (simp [inR_i64] at *; omega))
      refine AOps.callF (T := T) rfl rfl rfl rfl rfl ?_ (toBoolS_fn bs hb) (.inl ⟨by repeat' (first | exact trivial | refine And.intro ?_ ?_ | intro _), by repeat' (first | exact trivial | refine And.intro ?_ ?_ | intro _)⟩) rfl ?_
      · repeat' (first | exact trivial | exact Bool.not_or_self _ | refine And.intro ?_ ?_ | (simp; done) | (simp_all; done) | (simp [inR_i64] at *; omega))
      refine AOps.callF (T := T) rfl rfl rfl rfl rfl ?_ (eqBoolS_fn bs hb) (.inl ⟨by repeat' (first | exact trivial | refine And.intro ?_ ?_ | intro _), by repeat' (first | exact trivial | refine And.intro ?_ ?_ | intro _)⟩) rfl ?_
      · repeat' (first | exact trivial | exact Bool.not_or_self _ | refine And.intro ?_ ?_ | (simp; done) | (simp_all; done) | (simp [inR_i64] at *; omega))
      refine AOps.run hT true rfl ?_ ?_
      · repeat' (first | exact trivial | exact Bool.not_or_self _ | refine And.intro ?_ ?_ | (simp; done) | (simp_all; done) | (simp [inR_i64] at *; omega))
      refine AOps.nil ?_
      repeat (with_reducible first | refine thenNil ?_ | refine blockNil ?_)
      refine AWp.cond rfl ?_ (fun hc2 => ?_) (fun hc2 => ?_)
      · repeat' (first | exact trivial | exact Bool.not_or_self _ | refine And.intro ?_ ?_ | (simp; done) | (simp_all; done) | (simp [inR_i64] at *; omega))
      · simp at hc2
      · try simp only [decide_eq_true_eq, decide_eq_false_iff_not] at hc2
        refine AWp.skip ?_
        repeat (with_reducible first | refine thenNil ?_ | refine blockNil ?_)
        refine AWp.seq ?_
        refine AWp.region ?_
        refine AOps.run hT true rfl ?_ ?_
        · repeat' (first | exact trivial | exact Bool.not_or_self _ | refine And.intro ?_ ?_ | (simp; done) | (simp_all; done) | (simp [inR_i64] at *; omega))
        refine AOps.nil ?_
        repeat (with_reducible first | refine thenNil ?_ | refine blockNil ?_)
        refine AWp.seq ?_
        refine AWp.region ?_
        refine AOps.run hT true rfl ?_ ?_
        · repeat' (first | exact trivial | exact Bool.not_or_self _ | refine And.intro ?_ ?_ | (simp; done) | (simp_all; done) | (simp [inR_i64] at *; omega))
        refine AOps.callH (T := T) [2] rfl rfl rfl rfl rfl rfl ?_ (markBoolS_fn bs hb) (.inl ⟨by repeat' (first | exact trivial | refine And.intro ?_ ?_ | intro _), by repeat' (first | exact trivial | refine And.intro ?_ ?_ | intro _)⟩) rfl rfl ?_
        · repeat' (first | exact trivial | exact Bool.not_or_self _ | refine And.intro ?_ ?_ | (simp; done) | (simp_all; done) | (simp [inR_i64] at *; omega))
        refine AOps.run hT true rfl ?_ ?_
        · repeat' (first | exact trivial | exact Bool.not_or_self _ | refine And.intro ?_ ?_ | (simp; done) | (simp_all; done) | (simp [inR_i64] at *; omega))
        refine AOps.nil ?_
        repeat (with_reducible first | refine thenNil ?_ | refine blockNil ?_)
        refine AWp.seq ?_
        refine AWp.seq ?_
        refine AWp.region ?_
        refine AOps.run hT true rfl ?_ ?_
        · repeat' (first | exact trivial | exact Bool.not_or_self _ | refine And.intro ?_ ?_ | (simp; done) | (simp_all; done) | (simp [inR_i64] at *; omega))
        refine AOps.callG (T := T) rfl rfl rfl rfl rfl (fun hg => ?_) (fun hg => eqPairS_fn (leftF most bs) hl3) (.inl (by repeat' (first | exact trivial | refine And.intro ?_ ?_ | intro _))) rfl ?_
        · repeat' (first | exact trivial | exact Bool.not_or_self _ | refine And.intro ?_ ?_ | (simp; done) | (simp_all; done) | (simp [inR_i64] at *; omega))
        refine AOps.run hT true rfl ?_ ?_
        · repeat' (first | exact trivial | exact Bool.not_or_self _ | refine And.intro ?_ ?_ | (simp; done) | (simp_all; done) | (simp [inR_i64] at *; omega))
        refine AOps.nil ?_
        repeat (with_reducible first | refine thenNil ?_ | refine blockNil ?_)
        refine AWp.cond rfl ?_ (fun hc3 => ?_) (fun hc3 => ?_)
        · repeat' (first | exact trivial | exact Bool.not_or_self _ | refine And.intro ?_ ?_ | (simp; done) | (simp_all; done) | (simp [inR_i64] at *; omega))
        · simp at hc3 <;> omega
        · try simp only [decide_eq_true_eq, decide_eq_false_iff_not] at hc3
          refine AWp.skip ?_
          repeat (with_reducible first | refine thenNil ?_ | refine blockNil ?_)
          refine AWp.seq ?_
          refine AWp.region ?_
          refine AOps.run hT true rfl ?_ ?_
          · repeat' (first | exact trivial | exact Bool.not_or_self _ | refine And.intro ?_ ?_ | (simp; done) | (simp_all; done) | (simp [inR_i64] at *; omega))
          refine AOps.nil ?_
          repeat (with_reducible first | refine thenNil ?_ | refine blockNil ?_)
          refine AWp.seq ?_
          refine AWp.region ?_
          refine AOps.run hT true rfl ?_ ?_
          · repeat' (first | exact trivial | exact Bool.not_or_self _ | refine And.intro ?_ ?_ | (simp; done) | (simp_all; done) | (simp [inR_i64] at *; omega))
          refine AOps.callH (T := T) [3] rfl rfl rfl rfl rfl rfl ?_ (markPairS_fn (leftF most bs) hl3) (.inl ⟨by repeat' (first | exact trivial | refine And.intro ?_ ?_ | intro _), by repeat' (first | exact trivial | refine And.intro ?_ ?_ | intro _)⟩) rfl rfl ?_
          · repeat' (first | exact trivial | exact Bool.not_or_self _ | refine And.intro ?_ ?_ | (simp; done) | (simp_all; done) | (simp [inR_i64] at *; omega))
          refine AOps.run hT true rfl ?_ ?_
          · repeat' (first | exact trivial | exact Bool.not_or_self _ | refine And.intro ?_ ?_ | (simp; done) | (simp_all; done) | (simp [inR_i64] at *; omega))
          refine AOps.nil ?_
          repeat (with_reducible first | refine thenNil ?_ | refine blockNil ?_)
          refine AWp.seq ?_
          refine AWp.region ?_
          refine AOps.run hT true rfl ?_ ?_
          · repeat' (first | exact trivial | exact Bool.not_or_self _ | refine And.intro ?_ ?_ | (simp; done) | (simp_all; done) | (simp [inR_i64] at *; omega))
          refine AOps.nil ?_
          repeat (with_reducible first | refine thenNil ?_ | refine blockNil ?_)
          refine AWp.seq ?_
          refine AWp.region ?_
          refine AOps.run hT true rfl ?_ ?_
          · repeat' (first | exact trivial | exact Bool.not_or_self _ | refine And.intro ?_ ?_ | (simp; done) | (simp_all; done) | (simp [inR_i64] at *; omega))
          refine AOps.callF (T := T) rfl rfl rfl rfl rfl ?_ (heldPairS_fn (leftF most bs).length hl3) (.inl ⟨by repeat' (first | exact trivial | refine And.intro ?_ ?_ | intro _), by repeat' (first | exact trivial | refine And.intro ?_ ?_ | intro _)⟩) rfl ?_
          · repeat' (first | exact trivial | exact Bool.not_or_self _ | refine And.intro ?_ ?_ | (simp; done) | (simp_all; done) | (simp [inR_i64] at *; omega))
          refine AOps.run hT true rfl ?_ ?_
          · repeat' (first | exact trivial | exact Bool.not_or_self _ | refine And.intro ?_ ?_ | (simp; done) | (simp_all; done) | (simp [inR_i64] at *; omega))
          refine AOps.nil ?_
          repeat (with_reducible first | refine thenNil ?_ | refine blockNil ?_)
          refine AWp.seq ?_
          refine AWp.seq ?_
          refine AWp.region ?_
          refine AOps.run hT true rfl ?_ ?_
          · repeat' (first | exact trivial | exact Bool.not_or_self _ | refine And.intro ?_ ?_ | (simp; done) | (simp_all; done) | (simp [inR_i64] at *; omega))
          refine AOps.nil ?_
          repeat (with_reducible first | refine thenNil ?_ | refine blockNil ?_)
          refine AWp.cond rfl ?_ (fun hc4 => ?_) (fun hc4 => ?_)
          · repeat' (first | exact trivial | exact Bool.not_or_self _ | refine And.intro ?_ ?_ | (simp; done) | (simp_all; done) | (simp [inR_i64] at *; omega))
          · simp at hc4 <;> omega
          · try simp only [decide_eq_true_eq, decide_eq_false_iff_not] at hc4
            refine AWp.skip ?_
            repeat (with_reducible first | refine thenNil ?_ | refine blockNil ?_)
            refine AWp.seq ?_
            refine AWp.seq ?_
            refine AWp.region ?_
            refine AOps.run hT true rfl ?_ ?_
            · repeat' (first | exact trivial | exact Bool.not_or_self _ | refine And.intro ?_ ?_ | (simp; done) | (simp_all; done) | (simp [inR_i64] at *; omega))
            refine AOps.nil ?_
            repeat (with_reducible first | refine thenNil ?_ | refine blockNil ?_)
            refine AWp.cond rfl ?_ (fun hc5 => ?_) (fun hc5 => ?_)
            · repeat' (first | exact trivial | exact Bool.not_or_self _ | refine And.intro ?_ ?_ | (simp; done) | (simp_all; done) | (simp [inR_i64] at *; omega))
            · simp at hc5
            · try simp only [decide_eq_true_eq, decide_eq_false_iff_not] at hc5
              refine AWp.skip ?_
              repeat (with_reducible first | refine thenNil ?_ | refine blockNil ?_)
              refine AWp.seq ?_
              refine AWp.region ?_
              refine AOps.run hT true rfl ?_ ?_
              · repeat' (first | exact trivial | exact Bool.not_or_self _ | refine And.intro ?_ ?_ | (simp; done) | (simp_all; done) | (simp [inR_i64] at *; omega))
              refine AOps.callF (T := T) rfl rfl rfl rfl rfl ?_ (toBoolS_fn bs hb) (.inl ⟨by repeat' (first | exact trivial | refine And.intro ?_ ?_ | intro _), by repeat' (first | exact trivial | refine And.intro ?_ ?_ | intro _)⟩) rfl ?_
              · repeat' (first | exact trivial | exact Bool.not_or_self _ | refine And.intro ?_ ?_ | (simp; done) | (simp_all; done) | (simp [inR_i64] at *; omega))
              refine AOps.callF (T := T) rfl rfl rfl rfl rfl ?_ (PairsLeft_fn most bs hm hb) (.inl ⟨by repeat' (first | exact trivial | refine And.intro ?_ ?_ | intro _), by repeat' (first | exact trivial | refine And.intro ?_ ?_ | intro _)⟩) rfl ?_
              · repeat' (first | exact trivial | exact Bool.not_or_self _ | refine And.intro ?_ ?_ | (simp; done) | (simp_all; done) | (simp [inR_i64] at *; omega))
              refine AOps.run hT true rfl ?_ ?_
              · repeat' (first | exact trivial | exact Bool.not_or_self _ | refine And.intro ?_ ?_ | (simp; done) | (simp_all; done) | (simp [inR_i64] at *; omega))
              refine AOps.nil ?_
              repeat (with_reducible first | refine thenNil ?_ | refine blockNil ?_)
              refine AWp.seq ?_
              refine AWp.seq ?_
              refine AWp.region ?_
              refine AOps.run hT true rfl ?_ ?_
              · repeat' (first | exact trivial | exact Bool.not_or_self _ | refine And.intro ?_ ?_ | (simp; done) | (simp_all; done) | (simp [inR_i64] at *; omega))
              refine AOps.callF (T := T) rfl rfl rfl rfl rfl ?_ (eqPairS_fn (leftF most bs) hl3) (.inl ⟨by repeat' (first | exact trivial | refine And.intro ?_ ?_ | intro _), by repeat' (first | exact trivial | refine And.intro ?_ ?_ | intro _)⟩) rfl ?_
              · repeat' (first | exact trivial | exact Bool.not_or_self _ | refine And.intro ?_ ?_ | (simp; done) | (simp_all; done) | (simp [inR_i64] at *; omega))
              refine AOps.run hT true rfl ?_ ?_
              · repeat' (first | exact trivial | exact Bool.not_or_self _ | refine And.intro ?_ ?_ | (simp; done) | (simp_all; done) | (simp [inR_i64] at *; omega))
              refine AOps.nil ?_
              repeat (with_reducible first | refine thenNil ?_ | refine blockNil ?_)
              refine AWp.cond rfl ?_ (fun hc6 => ?_) (fun hc6 => ?_)
              · repeat' (first | exact trivial | exact Bool.not_or_self _ | refine And.intro ?_ ?_ | (simp; done) | (simp_all; done) | (simp [inR_i64] at *; omega))
              · simp at hc6
              · try simp only [decide_eq_true_eq, decide_eq_false_iff_not] at hc6
                refine AWp.skip ?_
                repeat (with_reducible first | refine thenNil ?_ | refine blockNil ?_)
                refine AWp.seq ?_
                refine AWp.region ?_
                refine AOps.run hT true rfl ?_ ?_
                · repeat' (first | exact trivial | exact Bool.not_or_self _ | refine And.intro ?_ ?_ | (simp; done) | (simp_all; done) | (simp [inR_i64] at *; omega))
                refine AOps.nil ?_
                repeat (with_reducible first | refine thenNil ?_ | refine blockNil ?_)
                refine AWp.seq ?_
                refine AWp.region ?_
                refine AOps.run hT true rfl ?_ ?_
                · repeat' (first | exact trivial | exact Bool.not_or_self _ | refine And.intro ?_ ?_ | (simp; done) | (simp_all; done) | (simp [inR_i64] at *; omega))
                refine AOps.callF (T := T) rfl rfl rfl rfl rfl ?_ (heldPairS_fn (leftF most bs).length hl3) (.inl ⟨by repeat' (first | exact trivial | refine And.intro ?_ ?_ | intro _), by repeat' (first | exact trivial | refine And.intro ?_ ?_ | intro _)⟩) rfl ?_
                · repeat' (first | exact trivial | exact Bool.not_or_self _ | refine And.intro ?_ ?_ | (simp; done) | (simp_all; done) | (simp [inR_i64] at *; omega))
                refine AOps.run hT true rfl ?_ ?_
                · repeat' (first | exact trivial | exact Bool.not_or_self _ | refine And.intro ?_ ?_ | (simp; done) | (simp_all; done) | (simp [inR_i64] at *; omega))
                refine AOps.nil ?_
                repeat (with_reducible first | refine thenNil ?_ | refine blockNil ?_)
                refine AWp.seq ?_
                refine AWp.seq ?_
                refine AWp.region ?_
                refine AOps.run hT true rfl ?_ ?_
                · repeat' (first | exact trivial | exact Bool.not_or_self _ | refine And.intro ?_ ?_ | (simp; done) | (simp_all; done) | (simp [inR_i64] at *; omega))
                refine AOps.nil ?_
                repeat (with_reducible first | refine thenNil ?_ | refine blockNil ?_)
                refine AWp.cond rfl ?_ (fun hc7 => ?_) (fun hc7 => ?_)
                · repeat' (first | exact trivial | exact Bool.not_or_self _ | refine And.intro ?_ ?_ | (simp; done) | (simp_all; done) | (simp [inR_i64] at *; omega))
                · simp at hc7 <;> omega
                · try simp only [decide_eq_true_eq, decide_eq_false_iff_not] at hc7
                  refine AWp.skip ?_
                  repeat (with_reducible first | refine thenNil ?_ | refine blockNil ?_)
                  refine AWp.seq ?_
                  refine AWp.seq ?_
                  refine AWp.region ?_
                  refine AOps.run hT true rfl ?_ ?_
                  · repeat' (first | exact trivial | exact Bool.not_or_self _ | refine And.intro ?_ ?_ | (simp; done) | (simp_all; done) | (simp [inR_i64] at *; omega))
                  refine AOps.nil ?_
                  repeat (with_reducible first | refine thenNil ?_ | refine blockNil ?_)
                  refine AWp.cond rfl ?_ (fun hc8 => ?_) (fun hc8 => ?_)
                  · repeat' (first | exact trivial | exact Bool.not_or_self _ | refine And.intro ?_ ?_ | (simp; done) | (simp_all; done) | (simp [inR_i64] at *; omega))
                  · simp at hc8
                  · try simp only [decide_eq_true_eq, decide_eq_false_iff_not] at hc8
                    refine AWp.skip ?_
                    repeat (with_reducible first | refine thenNil ?_ | refine blockNil ?_)
                    refine AWp.seq ?_
                    refine AWp.region ?_
                    refine AOps.run hT true rfl ?_ ?_
                    · repeat' (first | exact trivial | exact Bool.not_or_self _ | refine And.intro ?_ ?_ | (simp; done) | (simp_all; done) | (simp [inR_i64] at *; omega))
                    refine AOps.nil ?_
                    repeat (with_reducible first | refine thenNil ?_ | refine blockNil ?_)
                    refine AWp.ret ?_
                    repeat (with_reducible first | refine thenRet ?_ | refine blockRet ?_)
                    refine EndsIn.ret rfl ?_ ?_
                    · repeat' (first | exact trivial | exact Bool.not_or_self _ | refine And.intro ?_ ?_ | (simp; done) | (simp_all; done) | (simp [inR_i64] at *; omega))
                    refine ⟨[], ?_, rfl, rfl, rfl⟩
                    rfl

end Go.AMA
