/- Contracts of functions of the program, for the claims of this seat. -/
import Derived.Test.YtciempegimofhaaAT
set_option linter.unusedSectionVars false
set_option linter.unusedSimpArgs false
set_option linter.unusedVariables false
set_option linter.unnecessarySimpa false
namespace Go.AMA
open Go.AM

def pairOk (p : Int × Int) : Bool := (decide (0 ≤ p.1) && decide (p.1 ≤ 40)) && (decide (0 ≤ p.2) && decide (p.2 ≤ 40)) && (p.1 - p.2 == 1 || p.2 - p.1 == 1)
def dealOk (d : Int × Int × Int) : Bool := (decide (1 ≤ d.1) && decide (d.1 ≤ 7)) && (decide (1 ≤ d.2.1) && decide (d.2.1 ≤ 7)) && (decide (0 ≤ d.2.2) && decide (d.2.2 ≤ 7)) && decide (d.1 + d.2.1 + d.2.2 ≤ 7)

theorem within_fn (x a b : Int) : AFn P 89 [ci x, ci a, ci b] (.i (cb (decide (x ≥ a) && decide (x ≤ b)))) [] := by
  refine AFn.of_body Tok 15 Go.Proofs.Try.func89 rfl rfl rfl (by simp) rfl ?_
  rintro ⟨_, _, w0, I0, O0, X0, fx⟩ rfl rfl hT hfx
  refine AWp.seq ?_
  refine AWp.region ?_
  refine AOps.run hT true rfl ?_ ?_
  · repeat' (first | exact trivial | refine And.intro ?_ ?_ | (simp; done) | (simp_all; done) | (simp [inR_i64] at *; omega))
  refine AOps.nil ?_
  repeat (with_reducible first | refine thenNil ?_ | refine blockNil ?_)
  refine AWp.seq ?_
  refine AWp.region ?_
  refine AOps.run hT true rfl ?_ ?_
  · repeat' (first | exact trivial | refine And.intro ?_ ?_ | (simp; done) | (simp_all; done) | (simp [inR_i64] at *; omega))
  refine AOps.nil ?_
  repeat (with_reducible first | refine thenNil ?_ | refine blockNil ?_)
  refine AWp.ret ?_
  repeat (with_reducible first | refine thenRet ?_ | refine blockRet ?_)
  refine EndsIn.ret rfl ?_ ?_
  · repeat' (first | exact trivial | refine And.intro ?_ ?_ | (simp; done) | (simp_all; done) | (simp [inR_i64] at *; omega))
  refine ⟨[], ?_, rfl, rfl, rfl⟩
  simp [renA, wrapG, cb]

theorem l01In_fn (x a b : Int) : AFn P 88 [ci x, ci a, ci b] (.i (cb (decide (x ≥ a) && decide (x ≤ b)))) [] := by
  refine AFn.of_body Tok 15 Go.Proofs.Try.func88 rfl rfl rfl (by simp) rfl ?_
  rintro ⟨_, _, w0, I0, O0, X0, fx⟩ rfl rfl hT hfx
  refine AWp.seq ?_
  refine AWp.region ?_
  refine AOps.run hT true rfl ?_ ?_
  · repeat' (first | exact trivial | refine And.intro ?_ ?_ | (simp; done) | (simp_all; done) | (simp [inR_i64] at *; omega))
  refine AOps.nil ?_
  repeat (with_reducible first | refine thenNil ?_ | refine blockNil ?_)
  refine AWp.seq ?_
  refine AWp.region ?_
  refine AOps.run hT true rfl ?_ ?_
  · repeat' (first | exact trivial | refine And.intro ?_ ?_ | (simp; done) | (simp_all; done) | (simp [inR_i64] at *; omega))
  refine AOps.nil ?_
  repeat (with_reducible first | refine thenNil ?_ | refine blockNil ?_)
  refine AWp.ret ?_
  repeat (with_reducible first | refine thenRet ?_ | refine blockRet ?_)
  refine EndsIn.ret rfl ?_ ?_
  · repeat' (first | exact trivial | refine And.intro ?_ ?_ | (simp; done) | (simp_all; done) | (simp [inR_i64] at *; omega))
  refine ⟨[], ?_, rfl, rfl, rfl⟩
  simp [renA, wrapG, cb]

theorem toPair_fn (p : Int × Int) : AFn P 28 [cpair p] (.i (cpair p)) [] := by
  refine AFn.of_body Tok 11 Go.Proofs.Try.func28 rfl rfl rfl (by simp) rfl ?_
  rintro ⟨_, _, w0, I0, O0, X0, fx⟩ rfl rfl hT hfx
  refine AWp.seq ?_
  refine AWp.region ?_
  refine AOps.run hT true rfl ?_ ?_
  · repeat' (first | exact trivial | refine And.intro ?_ ?_ | (simp; done) | (simp_all; done) | (simp [inR_i64] at *; omega))
  refine AOps.nil ?_
  repeat (with_reducible first | refine thenNil ?_ | refine blockNil ?_)
  refine AWp.seq ?_
  refine AWp.region ?_
  refine AOps.run hT true rfl ?_ ?_
  · repeat' (first | exact trivial | refine And.intro ?_ ?_ | (simp; done) | (simp_all; done) | (simp [inR_i64] at *; omega))
  refine AOps.nil ?_
  repeat (with_reducible first | refine thenNil ?_ | refine blockNil ?_)
  refine AWp.seq ?_
  refine AWp.region ?_
  refine AOps.run hT true rfl ?_ ?_
  · repeat' (first | exact trivial | refine And.intro ?_ ?_ | (simp; done) | (simp_all; done) | (simp [inR_i64] at *; omega))
  refine AOps.nil ?_
  repeat (with_reducible first | refine thenNil ?_ | refine blockNil ?_)
  refine AWp.seq ?_
  refine AWp.region ?_
  refine AOps.run hT true rfl ?_ ?_
  · repeat' (first | exact trivial | refine And.intro ?_ ?_ | (simp; done) | (simp_all; done) | (simp [inR_i64] at *; omega))
  refine AOps.nil ?_
  repeat (with_reducible first | refine thenNil ?_ | refine blockNil ?_)
  refine AWp.seq ?_
  refine AWp.region ?_
  refine AOps.run hT true rfl ?_ ?_
  · repeat' (first | exact trivial | refine And.intro ?_ ?_ | (simp; done) | (simp_all; done) | (simp [inR_i64] at *; omega))
  refine AOps.nil ?_
  repeat (with_reducible first | refine thenNil ?_ | refine blockNil ?_)
  refine AWp.ret ?_
  repeat (with_reducible first | refine thenRet ?_ | refine blockRet ?_)
  refine EndsIn.ret rfl ?_ ?_
  · repeat' (first | exact trivial | refine And.intro ?_ ?_ | (simp; done) | (simp_all; done) | (simp [inR_i64] at *; omega))
  refine ⟨[], ?_, rfl, rfl, rfl⟩
  rfl

theorem PairOk_fn (p : Int × Int) : AFn P 29 [cpair p] (.i (cb (pairOk p))) [] := by
  refine AFn.of_body Tok 27 Go.Proofs.Try.func29 rfl rfl rfl (by simp) rfl ?_
  rintro ⟨_, _, w0, I0, O0, X0, fx⟩ rfl rfl hT hfx
  refine AWp.seq ?_
  refine AWp.region ?_
  refine AOps.run hT true rfl ?_ ?_
  · repeat' (first | exact trivial | refine And.intro ?_ ?_ | (simp; done) | (simp_all; done) | (simp [inR_i64] at *; omega))
  refine AOps.nil ?_
  repeat (with_reducible first | refine thenNil ?_ | refine blockNil ?_)
  refine AWp.seq ?_
  refine AWp.region ?_
  refine AOps.run hT true rfl ?_ ?_
  · repeat' (first | exact trivial | refine And.intro ?_ ?_ | (simp; done) | (simp_all; done) | (simp [inR_i64] at *; omega))
  refine AOps.callF (T := T) rfl rfl rfl rfl rfl ?_ (within_fn _ _ _) (.inl ⟨by repeat' (first | exact trivial | refine And.intro ?_ ?_ | intro _), by repeat' (first | exact trivial | refine And.intro ?_ ?_ | intro _)⟩) rfl ?_
  · repeat' (first | exact trivial | refine And.intro ?_ ?_ | (simp; done) | (simp_all; done) | (simp [inR_i64] at *; omega))
  refine AOps.run hT true rfl ?_ ?_
  · repeat' (first | exact trivial | refine And.intro ?_ ?_ | (simp; done) | (simp_all; done) | (simp [inR_i64] at *; omega))
  refine AOps.callG (T := T) rfl rfl rfl rfl rfl (fun hg => ?_) (fun hg => within_fn _ _ _) (.inl (by repeat' (first | exact trivial | refine And.intro ?_ ?_ | intro _))) rfl ?_
  · repeat' (first | exact trivial | refine And.intro ?_ ?_ | (simp; done) | (simp_all; done) | (simp [inR_i64] at *; omega))
  refine AOps.run hT true rfl ?_ ?_
  · repeat' (first | exact trivial | refine And.intro ?_ ?_ | (simp; done) | (simp_all; done) | (simp [inR_i64] at *; omega))
  refine AOps.nil ?_
  repeat (with_reducible first | refine thenNil ?_ | refine blockNil ?_)
  refine AWp.ret ?_
  repeat (with_reducible first | refine thenRet ?_ | refine blockRet ?_)
  refine EndsIn.ret rfl ?_ ?_
  · repeat' (first | exact trivial | refine And.intro ?_ ?_ | (simp; done) | (simp_all; done) | (simp [inR_i64] at *; omega))
  refine ⟨[], ?_, rfl, rfl, rfl⟩
  simp [renA, wrapG, cb, pairOk]

theorem sPairOk_fn (p : Int × Int) : AFn P 27 [cpair p] (.i (cb (pairOk p))) [] := by
  refine AFn.of_body Tok 27 Go.Proofs.Try.func27 rfl rfl rfl (by simp) rfl ?_
  rintro ⟨_, _, w0, I0, O0, X0, fx⟩ rfl rfl hT hfx
  refine AWp.seq ?_
  refine AWp.region ?_
  refine AOps.run hT true rfl ?_ ?_
  · repeat' (first | exact trivial | refine And.intro ?_ ?_ | (simp; done) | (simp_all; done) | (simp [inR_i64] at *; omega))
  refine AOps.nil ?_
  repeat (with_reducible first | refine thenNil ?_ | refine blockNil ?_)
  refine AWp.seq ?_
  refine AWp.region ?_
  refine AOps.run hT true rfl ?_ ?_
  · repeat' (first | exact trivial | refine And.intro ?_ ?_ | (simp; done) | (simp_all; done) | (simp [inR_i64] at *; omega))
  refine AOps.callF (T := T) rfl rfl rfl rfl rfl ?_ (l01In_fn _ _ _) (.inl ⟨by repeat' (first | exact trivial | refine And.intro ?_ ?_ | intro _), by repeat' (first | exact trivial | refine And.intro ?_ ?_ | intro _)⟩) rfl ?_
  · repeat' (first | exact trivial | refine And.intro ?_ ?_ | (simp; done) | (simp_all; done) | (simp [inR_i64] at *; omega))
  refine AOps.run hT true rfl ?_ ?_
  · repeat' (first | exact trivial | refine And.intro ?_ ?_ | (simp; done) | (simp_all; done) | (simp [inR_i64] at *; omega))
  refine AOps.callG (T := T) rfl rfl rfl rfl rfl (fun hg => ?_) (fun hg => l01In_fn _ _ _) (.inl (by repeat' (first | exact trivial | refine And.intro ?_ ?_ | intro _))) rfl ?_
  · repeat' (first | exact trivial | refine And.intro ?_ ?_ | (simp; done) | (simp_all; done) | (simp [inR_i64] at *; omega))
  refine AOps.run hT true rfl ?_ ?_
  · repeat' (first | exact trivial | refine And.intro ?_ ?_ | (simp; done) | (simp_all; done) | (simp [inR_i64] at *; omega))
  refine AOps.nil ?_
  repeat (with_reducible first | refine thenNil ?_ | refine blockNil ?_)
  refine AWp.ret ?_
  repeat (with_reducible first | refine thenRet ?_ | refine blockRet ?_)
  refine EndsIn.ret rfl ?_ ?_
  · repeat' (first | exact trivial | refine And.intro ?_ ?_ | (simp; done) | (simp_all; done) | (simp [inR_i64] at *; omega))
  refine ⟨[], ?_, rfl, rfl, rfl⟩
  simp [renA, wrapG, cb, pairOk]

theorem law3 (p : Int × Int) : AFn P 3 [cpair p] (.i (cb true)) [] := by
  refine AFn.of_body Tok 14 Go.Proofs.Try.func3 rfl rfl rfl (by simp) rfl ?_
  rintro ⟨_, _, w0, I0, O0, X0, fx⟩ rfl rfl hT hfx
  refine AWp.seq ?_
  refine AWp.region ?_
  refine AOps.run hT true rfl ?_ ?_
  · repeat' (first | exact trivial | refine And.intro ?_ ?_ | (simp; done) | (simp_all; done) | (simp [inR_i64] at *; omega))
  refine AOps.nil ?_
  repeat (with_reducible first | refine thenNil ?_ | refine blockNil ?_)
  refine AWp.seq ?_
  refine AWp.region ?_
  refine AOps.run hT true rfl ?_ ?_
  · repeat' (first | exact trivial | refine And.intro ?_ ?_ | (simp; done) | (simp_all; done) | (simp [inR_i64] at *; omega))
  refine AOps.callF (T := T) rfl rfl rfl rfl rfl ?_ (toPair_fn p) (.inl ⟨by repeat' (first | exact trivial | refine And.intro ?_ ?_ | intro _), by repeat' (first | exact trivial | refine And.intro ?_ ?_ | intro _)⟩) rfl ?_
  · repeat' (first | exact trivial | refine And.intro ?_ ?_ | (simp; done) | (simp_all; done) | (simp [inR_i64] at *; omega))
  refine AOps.callF (T := T) rfl rfl rfl rfl rfl ?_ (sPairOk_fn p) (.inl ⟨by repeat' (first | exact trivial | refine And.intro ?_ ?_ | intro _), by repeat' (first | exact trivial | refine And.intro ?_ ?_ | intro _)⟩) rfl ?_
  · repeat' (first | exact trivial | refine And.intro ?_ ?_ | (simp; done) | (simp_all; done) | (simp [inR_i64] at *; omega))
  refine AOps.run hT true rfl ?_ ?_
  · repeat' (first | exact trivial | refine And.intro ?_ ?_ | (simp; done) | (simp_all; done) | (simp [inR_i64] at *; omega))
  refine AOps.nil ?_
  repeat (with_reducible first | refine thenNil ?_ | refine blockNil ?_)
  refine AWp.seq ?_
  refine AWp.region ?_
  refine AOps.run hT true rfl ?_ ?_
  · repeat' (first | exact trivial | refine And.intro ?_ ?_ | (simp; done) | (simp_all; done) | (simp [inR_i64] at *; omega))
  refine AOps.callF (T := T) rfl rfl rfl rfl rfl ?_ (toPair_fn p) (.inl ⟨by repeat' (first | exact trivial | refine And.intro ?_ ?_ | intro _), by repeat' (first | exact trivial | refine And.intro ?_ ?_ | intro _)⟩) rfl ?_
  · repeat' (first | exact trivial | refine And.intro ?_ ?_ | (simp; done) | (simp_all; done) | (simp [inR_i64] at *; omega))
  refine AOps.callF (T := T) rfl rfl rfl rfl rfl ?_ (PairOk_fn p) (.inl ⟨by repeat' (first | exact trivial | refine And.intro ?_ ?_ | intro _), by repeat' (first | exact trivial | refine And.intro ?_ ?_ | intro _)⟩) rfl ?_
  · repeat' (first | exact trivial | refine And.intro ?_ ?_ | (simp; done) | (simp_all; done) | (simp [inR_i64] at *; omega))
  refine AOps.run hT true rfl ?_ ?_
  · repeat' (first | exact trivial | refine And.intro ?_ ?_ | (simp; done) | (simp_all; done) | (simp [inR_i64] at *; omega))
  refine AOps.nil ?_
  repeat (with_reducible first | refine thenNil ?_ | refine blockNil ?_)
  refine AWp.seq ?_
  refine AWp.seq ?_
  refine AWp.region ?_
  refine AOps.run hT true rfl ?_ ?_
  · repeat' (first | exact trivial | refine And.intro ?_ ?_ | (simp; done) | (simp_all; done) | (simp [inR_i64] at *; omega))
  refine AOps.nil ?_
  repeat (with_reducible first | refine thenNil ?_ | refine blockNil ?_)
  refine AWp.cond rfl ?_ (fun hc0 => ?_) (fun hc0 => ?_)
  · repeat' (first | exact trivial | refine And.intro ?_ ?_ | (simp; done) | (simp_all; done) | (simp [inR_i64] at *; omega))
  · simp at hc0
  · try simp only [decide_eq_true_eq, decide_eq_false_iff_not] at hc0
    refine AWp.skip ?_
    repeat (with_reducible first | refine thenNil ?_ | refine blockNil ?_)
    refine AWp.seq ?_
    refine AWp.region ?_
    refine AOps.run hT true rfl ?_ ?_
    · repeat' (first | exact trivial | refine And.intro ?_ ?_ | (simp; done) | (simp_all; done) | (simp [inR_i64] at *; omega))
    refine AOps.nil ?_
    repeat (with_reducible first | refine thenNil ?_ | refine blockNil ?_)
    refine AWp.ret ?_
    repeat (with_reducible first | refine thenRet ?_ | refine blockRet ?_)
    refine EndsIn.ret rfl ?_ ?_
    · repeat' (first | exact trivial | refine And.intro ?_ ?_ | (simp; done) | (simp_all; done) | (simp [inR_i64] at *; omega))
    refine ⟨[], ?_, rfl, rfl, rfl⟩
    rfl

theorem toDeal_fn (p : Int × Int × Int) : AFn P 31 [cdeal p] (.i (cdeal p)) [] := by
  refine AFn.of_body Tok 14 Go.Proofs.Try.func31 rfl rfl rfl (by simp) rfl ?_
  rintro ⟨_, _, w0, I0, O0, X0, fx⟩ rfl rfl hT hfx
  refine AWp.seq ?_
  refine AWp.region ?_
  refine AOps.run hT true rfl ?_ ?_
  · repeat' (first | exact trivial | refine And.intro ?_ ?_ | (simp; done) | (simp_all; done) | (simp [inR_i64] at *; omega))
  refine AOps.nil ?_
  repeat (with_reducible first | refine thenNil ?_ | refine blockNil ?_)
  refine AWp.seq ?_
  refine AWp.region ?_
  refine AOps.run hT true rfl ?_ ?_
  · repeat' (first | exact trivial | refine And.intro ?_ ?_ | (simp; done) | (simp_all; done) | (simp [inR_i64] at *; omega))
  refine AOps.nil ?_
  repeat (with_reducible first | refine thenNil ?_ | refine blockNil ?_)
  refine AWp.seq ?_
  refine AWp.region ?_
  refine AOps.run hT true rfl ?_ ?_
  · repeat' (first | exact trivial | refine And.intro ?_ ?_ | (simp; done) | (simp_all; done) | (simp [inR_i64] at *; omega))
  refine AOps.nil ?_
  repeat (with_reducible first | refine thenNil ?_ | refine blockNil ?_)
  refine AWp.seq ?_
  refine AWp.region ?_
  refine AOps.run hT true rfl ?_ ?_
  · repeat' (first | exact trivial | refine And.intro ?_ ?_ | (simp; done) | (simp_all; done) | (simp [inR_i64] at *; omega))
  refine AOps.nil ?_
  repeat (with_reducible first | refine thenNil ?_ | refine blockNil ?_)
  refine AWp.seq ?_
  refine AWp.region ?_
  refine AOps.run hT true rfl ?_ ?_
  · repeat' (first | exact trivial | refine And.intro ?_ ?_ | (simp; done) | (simp_all; done) | (simp [inR_i64] at *; omega))
  refine AOps.nil ?_
  repeat (with_reducible first | refine thenNil ?_ | refine blockNil ?_)
  refine AWp.seq ?_
  refine AWp.region ?_
  refine AOps.run hT true rfl ?_ ?_
  · repeat' (first | exact trivial | refine And.intro ?_ ?_ | (simp; done) | (simp_all; done) | (simp [inR_i64] at *; omega))
  refine AOps.nil ?_
  repeat (with_reducible first | refine thenNil ?_ | refine blockNil ?_)
  refine AWp.ret ?_
  repeat (with_reducible first | refine thenRet ?_ | refine blockRet ?_)
  refine EndsIn.ret rfl ?_ ?_
  · repeat' (first | exact trivial | refine And.intro ?_ ?_ | (simp; done) | (simp_all; done) | (simp [inR_i64] at *; omega))
  refine ⟨[], ?_, rfl, rfl, rfl⟩
  rfl

theorem DealOk_fn (p : Int × Int × Int) : AFn P 32 [cdeal p] (.i (cb (dealOk p))) [] := by
  refine AFn.of_body Tok 27 Go.Proofs.Try.func32 rfl rfl rfl (by simp) rfl ?_
  rintro ⟨_, _, w0, I0, O0, X0, fx⟩ rfl rfl hT hfx
  refine AWp.seq ?_
  refine AWp.region ?_
  refine AOps.run hT true rfl ?_ ?_
  · repeat' (first | exact trivial | refine And.intro ?_ ?_ | (simp; done) | (simp_all; done) | (simp [inR_i64] at *; omega))
  refine AOps.nil ?_
  repeat (with_reducible first | refine thenNil ?_ | refine blockNil ?_)
  refine AWp.seq ?_
  refine AWp.region ?_
  refine AOps.run hT true rfl ?_ ?_
  · repeat' (first | exact trivial | refine And.intro ?_ ?_ | (simp; done) | (simp_all; done) | (simp [inR_i64] at *; omega))
  refine AOps.callF (T := T) rfl rfl rfl rfl rfl ?_ (within_fn _ _ _) (.inl ⟨by repeat' (first | exact trivial | refine And.intro ?_ ?_ | intro _), by repeat' (first | exact trivial | refine And.intro ?_ ?_ | intro _)⟩) rfl ?_
  · repeat' (first | exact trivial | refine And.intro ?_ ?_ | (simp; done) | (simp_all; done) | (simp [inR_i64] at *; omega))
  refine AOps.run hT true rfl ?_ ?_
  · repeat' (first | exact trivial | refine And.intro ?_ ?_ | (simp; done) | (simp_all; done) | (simp [inR_i64] at *; omega))
  refine AOps.callG (T := T) rfl rfl rfl rfl rfl (fun hg => ?_) (fun hg => within_fn _ _ _) (.inl (by repeat' (first | exact trivial | refine And.intro ?_ ?_ | intro _))) rfl ?_
  · repeat' (first | exact trivial | refine And.intro ?_ ?_ | (simp; done) | (simp_all; done) | (simp [inR_i64] at *; omega))
  refine AOps.run hT true rfl ?_ ?_
  · repeat' (first | exact trivial | refine And.intro ?_ ?_ | (simp; done) | (simp_all; done) | (simp [inR_i64] at *; omega))
  refine AOps.callG (T := T) rfl rfl rfl rfl rfl (fun hg => ?_) (fun hg => within_fn _ _ _) (.inl (by repeat' (first | exact trivial | refine And.intro ?_ ?_ | intro _))) rfl ?_
  · repeat' (first | exact trivial | refine And.intro ?_ ?_ | (simp; done) | (simp_all; done) | (simp [inR_i64] at *; omega))
  refine AOps.run hT true rfl ?_ ?_
  · repeat' (first | exact trivial | refine And.intro ?_ ?_ | (simp; done) | (simp_all; done) | (simp [inR_i64] at *; omega))
  refine AOps.nil ?_
  repeat (with_reducible first | refine thenNil ?_ | refine blockNil ?_)
  refine AWp.ret ?_
  repeat (with_reducible first | refine thenRet ?_ | refine blockRet ?_)
  refine EndsIn.ret rfl ?_ ?_
  · repeat' (first | exact trivial | refine And.intro ?_ ?_ | (simp; done) | (simp_all; done) | (simp [inR_i64] at *; omega))
  refine ⟨[], ?_, rfl, rfl, rfl⟩
  simp [renA, wrapG, cb, dealOk]

theorem sDealOk_fn (p : Int × Int × Int) : AFn P 30 [cdeal p] (.i (cb (dealOk p))) [] := by
  refine AFn.of_body Tok 27 Go.Proofs.Try.func30 rfl rfl rfl (by simp) rfl ?_
  rintro ⟨_, _, w0, I0, O0, X0, fx⟩ rfl rfl hT hfx
  refine AWp.seq ?_
  refine AWp.region ?_
  refine AOps.run hT true rfl ?_ ?_
  · repeat' (first | exact trivial | refine And.intro ?_ ?_ | (simp; done) | (simp_all; done) | (simp [inR_i64] at *; omega))
  refine AOps.nil ?_
  repeat (with_reducible first | refine thenNil ?_ | refine blockNil ?_)
  refine AWp.seq ?_
  refine AWp.region ?_
  refine AOps.run hT true rfl ?_ ?_
  · repeat' (first | exact trivial | refine And.intro ?_ ?_ | (simp; done) | (simp_all; done) | (simp [inR_i64] at *; omega))
  refine AOps.callF (T := T) rfl rfl rfl rfl rfl ?_ (l01In_fn _ _ _) (.inl ⟨by repeat' (first | exact trivial | refine And.intro ?_ ?_ | intro _), by repeat' (first | exact trivial | refine And.intro ?_ ?_ | intro _)⟩) rfl ?_
  · repeat' (first | exact trivial | refine And.intro ?_ ?_ | (simp; done) | (simp_all; done) | (simp [inR_i64] at *; omega))
  refine AOps.run hT true rfl ?_ ?_
  · repeat' (first | exact trivial | refine And.intro ?_ ?_ | (simp; done) | (simp_all; done) | (simp [inR_i64] at *; omega))
  refine AOps.callG (T := T) rfl rfl rfl rfl rfl (fun hg => ?_) (fun hg => l01In_fn _ _ _) (.inl (by repeat' (first | exact trivial | refine And.intro ?_ ?_ | intro _))) rfl ?_
  · repeat' (first | exact trivial | refine And.intro ?_ ?_ | (simp; done) | (simp_all; done) | (simp [inR_i64] at *; omega))
  refine AOps.run hT true rfl ?_ ?_
  · repeat' (first | exact trivial | refine And.intro ?_ ?_ | (simp; done) | (simp_all; done) | (simp [inR_i64] at *; omega))
  refine AOps.callG (T := T) rfl rfl rfl rfl rfl (fun hg => ?_) (fun hg => l01In_fn _ _ _) (.inl (by repeat' (first | exact trivial | refine And.intro ?_ ?_ | intro _))) rfl ?_
  · repeat' (first | exact trivial | refine And.intro ?_ ?_ | (simp; done) | (simp_all; done) | (simp [inR_i64] at *; omega))
  refine AOps.run hT true rfl ?_ ?_
  · repeat' (first | exact trivial | refine And.intro ?_ ?_ | (simp; done) | (simp_all; done) | (simp [inR_i64] at *; omega))
  refine AOps.nil ?_
  repeat (with_reducible first | refine thenNil ?_ | refine blockNil ?_)
  refine AWp.ret ?_
  repeat (with_reducible first | refine thenRet ?_ | refine blockRet ?_)
  refine EndsIn.ret rfl ?_ ?_
  · repeat' (first | exact trivial | refine And.intro ?_ ?_ | (simp; done) | (simp_all; done) | (simp [inR_i64] at *; omega))
  refine ⟨[], ?_, rfl, rfl, rfl⟩
  simp [renA, wrapG, cb, dealOk]

theorem law4 (p : Int × Int × Int) : AFn P 4 [cdeal p] (.i (cb true)) [] := by
  refine AFn.of_body Tok 14 Go.Proofs.Try.func4 rfl rfl rfl (by simp) rfl ?_
  rintro ⟨_, _, w0, I0, O0, X0, fx⟩ rfl rfl hT hfx
  refine AWp.seq ?_
  refine AWp.region ?_
  refine AOps.run hT true rfl ?_ ?_
  · repeat' (first | exact trivial | refine And.intro ?_ ?_ | (simp; done) | (simp_all; done) | (simp [inR_i64] at *; omega))
  refine AOps.nil ?_
  repeat (with_reducible first | refine thenNil ?_ | refine blockNil ?_)
  refine AWp.seq ?_
  refine AWp.region ?_
  refine AOps.run hT true rfl ?_ ?_
  · repeat' (first | exact trivial | refine And.intro ?_ ?_ | (simp; done) | (simp_all; done) | (simp [inR_i64] at *; omega))
  refine AOps.callF (T := T) rfl rfl rfl rfl rfl ?_ (toDeal_fn p) (.inl ⟨by repeat' (first | exact trivial | refine And.intro ?_ ?_ | intro _), by repeat' (first | exact trivial | refine And.intro ?_ ?_ | intro _)⟩) rfl ?_
  · repeat' (first | exact trivial | refine And.intro ?_ ?_ | (simp; done) | (simp_all; done) | (simp [inR_i64] at *; omega))
  refine AOps.callF (T := T) rfl rfl rfl rfl rfl ?_ (sDealOk_fn p) (.inl ⟨by repeat' (first | exact trivial | refine And.intro ?_ ?_ | intro _), by repeat' (first | exact trivial | refine And.intro ?_ ?_ | intro _)⟩) rfl ?_
  · repeat' (first | exact trivial | refine And.intro ?_ ?_ | (simp; done) | (simp_all; done) | (simp [inR_i64] at *; omega))
  refine AOps.run hT true rfl ?_ ?_
  · repeat' (first | exact trivial | refine And.intro ?_ ?_ | (simp; done) | (simp_all; done) | (simp [inR_i64] at *; omega))
  refine AOps.nil ?_
  repeat (with_reducible first | refine thenNil ?_ | refine blockNil ?_)
  refine AWp.seq ?_
  refine AWp.region ?_
  refine AOps.run hT true rfl ?_ ?_
  · repeat' (first | exact trivial | refine And.intro ?_ ?_ | (simp; done) | (simp_all; done) | (simp [inR_i64] at *; omega))
  refine AOps.callF (T := T) rfl rfl rfl rfl rfl ?_ (toDeal_fn p) (.inl ⟨by repeat' (first | exact trivial | refine And.intro ?_ ?_ | intro _), by repeat' (first | exact trivial | refine And.intro ?_ ?_ | intro _)⟩) rfl ?_
  · repeat' (first | exact trivial | refine And.intro ?_ ?_ | (simp; done) | (simp_all; done) | (simp [inR_i64] at *; omega))
  refine AOps.callF (T := T) rfl rfl rfl rfl rfl ?_ (DealOk_fn p) (.inl ⟨by repeat' (first | exact trivial | refine And.intro ?_ ?_ | intro _), by repeat' (first | exact trivial | refine And.intro ?_ ?_ | intro _)⟩) rfl ?_
  · repeat' (first | exact trivial | refine And.intro ?_ ?_ | (simp; done) | (simp_all; done) | (simp [inR_i64] at *; omega))
  refine AOps.run hT true rfl ?_ ?_
  · repeat' (first | exact trivial | refine And.intro ?_ ?_ | (simp; done) | (simp_all; done) | (simp [inR_i64] at *; omega))
  refine AOps.nil ?_
  repeat (with_reducible first | refine thenNil ?_ | refine blockNil ?_)
  refine AWp.seq ?_
  refine AWp.seq ?_
  refine AWp.region ?_
  refine AOps.run hT true rfl ?_ ?_
  · repeat' (first | exact trivial | refine And.intro ?_ ?_ | (simp; done) | (simp_all; done) | (simp [inR_i64] at *; omega))
  refine AOps.nil ?_
  repeat (with_reducible first | refine thenNil ?_ | refine blockNil ?_)
  refine AWp.cond rfl ?_ (fun hc0 => ?_) (fun hc0 => ?_)
  · repeat' (first | exact trivial | refine And.intro ?_ ?_ | (simp; done) | (simp_all; done) | (simp [inR_i64] at *; omega))
  · simp at hc0
  · try simp only [decide_eq_true_eq, decide_eq_false_iff_not] at hc0
    refine AWp.skip ?_
    repeat (with_reducible first | refine thenNil ?_ | refine blockNil ?_)
    refine AWp.seq ?_
    refine AWp.region ?_
    refine AOps.run hT true rfl ?_ ?_
    · repeat' (first | exact trivial | refine And.intro ?_ ?_ | (simp; done) | (simp_all; done) | (simp [inR_i64] at *; omega))
    refine AOps.nil ?_
    repeat (with_reducible first | refine thenNil ?_ | refine blockNil ?_)
    refine AWp.ret ?_
    repeat (with_reducible first | refine thenRet ?_ | refine blockRet ?_)
    refine EndsIn.ret rfl ?_ ?_
    · repeat' (first | exact trivial | refine And.intro ?_ ?_ | (simp; done) | (simp_all; done) | (simp [inR_i64] at *; omega))
    refine ⟨[], ?_, rfl, rfl, rfl⟩
    rfl

end Go.AMA
