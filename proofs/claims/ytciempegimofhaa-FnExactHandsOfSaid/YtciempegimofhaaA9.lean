/- Contracts of functions of the program, for the claims of this seat. -/
import Derived.Test.YtciempegimofhaaA8
set_option linter.unusedSectionVars false
set_option linter.unusedSimpArgs false
set_option linter.unusedVariables false
set_option linter.unnecessarySimpa false
namespace Go.AMA
open Go.AM
abbrev bD (d : Int × Int × Int) : AObj := .box 31 [.i (ci d.1), .i (ci d.2.1), .i (ci d.2.2)]
def allI (n : Nat) (q : Int → Bool) : Bool := (List.range n).all fun i => q (i : Int)
section
variable {n : Nat} {q : Int → Bool} {x : Int}
theorem allI_iff : allI n q = true ↔ ∀ i : Nat, i < n → q (i : Int) = true := by
  unfold allI; rw [List.all_eq_true]; simp
theorem allI_succ (h0 : 0 ≤ x) : allI (x + 1).toNat q = (allI x.toNat q && q x) := by
  rw [show (x + 1).toNat = x.toNat + 1 by omega]
  unfold allI
  rw [List.range_succ, List.all_append]
  simp [show ((x.toNat : Nat) : Int) = x by omega]
theorem allI_next (h0 : 0 ≤ x) (h : allI x.toNat q = true) (hq : q x = true) : allI (x + 1).toNat q = true := by rw [allI_succ h0, h, hq]; rfl
theorem allI_hit (h0 : 0 ≤ x) (h1 : x < n) (h : q x = false) : allI n q = false := by
  cases hh : allI n q with
  | false => rfl
  | true =>
    have := allI_iff.1 hh x.toNat (by omega)
    rw [show ((x.toNat : Nat) : Int) = x by omega, h] at this; cases this
theorem allI_end (h1 : ¬ x < n) (h2 : x ≤ n) (h : allI x.toNat q = true) : allI n q = true := by
  rwa [show x.toNat = n by omega] at h
end
theorem nb {z : Bool} (h : (!z) = false) : z = true := by cases z; cases h; rfl
theorem nt {z : Bool} (h : (!z) = true) : z = false := by cases z; rfl; cases h
def stepI (l : List Int) (x : Int) : Bool := !(decide (x > 0) && decide (l.getD x.toNat default ≤ l.getD (x - 1).toNat default))
def qA (hs l : List Int) (x : Int) : Bool := has1 hs (l.getD x.toNat default) && stepI l x
def qR (l : List Int) (x : Int) : Bool := (decide (l.getD x.toNat default ≥ 0) && decide (l.getD x.toNat default ≤ 128 - 1)) && !(decide (x > 0) && decide (l.getD (x - 1).toNat default ≥ l.getD x.toNat default))
theorem q_s (h a b : Bool) : (bif !h then true else bif a then b else false) = !(h && !(a && b)) := by cases h <;> cases a <;> cases b <;> rfl
def annOk (d : Int × Int × Int) (l : List Int) : Bool := dealOk d && (!((l.length : Int) == 0) && allI l.length (qA (handsF d) l))
theorem has1_mem {l : List Int} {n : Int} : has1 l n = true ↔ n ∈ l := by
  unfold has1; rw [List.any_eq_true]
  constructor
  · rintro ⟨a, h1, h2⟩; have : a = n := by simpa using h2
    subst this; exact h1
  · intro h; exact ⟨n, h, by simp⟩
theorem handsF_mem {d : Int × Int × Int} {n : Int} (h : n ∈ handsF d) : 0 ≤ n ∧ n < 128 := by
  unfold handsF at h
  split at h
  · rename_i hd
    obtain ⟨h1, h2, h3, h4⟩ := deal_cards hd
    exact handsL_mem (by omega) (by omega) h
  · cases h
theorem qA_R {d : Int × Int × Int} {l : List Int} {x : Int} : qA (handsF d) l x = true ↔ qR l x = true ∧ has1 (handsF d) (l.getD x.toNat default) = true := by
  unfold qA qR stepI
  simp only [Bool.and_eq_true, ge_iff_le]
  constructor
  · rintro ⟨h1, h2⟩
    obtain ⟨h3, h4⟩ := handsF_mem (has1_mem.1 h1)
    exact ⟨⟨⟨by simpa using h3, by simp; simp at h4; omega⟩, h2⟩, h1⟩
  · rintro ⟨⟨_, h2⟩, h1⟩; exact ⟨h1, h2⟩
theorem ann_R {d : Int × Int × Int} {l : List Int} (h : allI l.length (qR l) = false) : allI l.length (qA (handsF d) l) = false := by
  cases hh : allI l.length (qA (handsF d) l) with
  | false => rfl
  | true =>
    have : allI l.length (qR l) = true := allI_iff.2 fun i hi => (qA_R.1 (allI_iff.1 hh i hi)).1
    rw [h] at this; cases this
theorem ann_both {d : Int × Int × Int} {l : List Int} (h1 : allI l.length (qR l) = true) (h2 : allI l.length (fun x => has1 (handsF d) (l.getD x.toNat default)) = true) : allI l.length (qA (handsF d) l) = true :=
  allI_iff.2 fun i hi => qA_R.2 ⟨allI_iff.1 h1 i hi, allI_iff.1 h2 i hi⟩
theorem ann_split {d : Int × Int × Int} {l : List Int} (h : annOk d l = true) : dealOk d = true ∧ allI l.length (qA (handsF d) l) = true := by
  simp only [annOk, Bool.and_eq_true] at h; exact ⟨h.1, h.2.2⟩
theorem ann_elem {d : Int × Int × Int} {l : List Int} (h : annOk d l = true) {x : Int} (h0 : 0 ≤ x) (h1 : x < l.length) : 0 ≤ l.getD x.toNat default ∧ l.getD x.toNat default < 128 := by
  have := allI_iff.1 (ann_split h).2 x.toNat (by omega)
  rw [show ((x.toNat : Nat) : Int) = x by omega] at this
  unfold qA at this
  rw [Bool.and_eq_true] at this
  exact handsF_mem (has1_mem.1 this.1)
theorem and_all : ((List.range 128).all fun i => (List.range 128).all fun j => decide (0 ≤ bitI .and .i64 (i : Int) (j : Int) ∧ bitI .and .i64 (i : Int) (j : Int) < 128)) = true := by decide +kernel
theorem and_range {x y : Int} (h : 0 ≤ x ∧ x < 128) (h' : 0 ≤ y ∧ y < 128) : 0 ≤ bitI .and .i64 x y ∧ bitI .and .i64 x y < 128 := by
  have := List.all_eq_true.1 (List.all_eq_true.1 and_all x.toNat (by rw [List.mem_range]; omega)) y.toNat (by rw [List.mem_range]; omega)
  rw [decide_eq_true_eq, show ((x.toNat : Nat) : Int) = x by omega, show ((y.toNat : Nat) : Int) = y by omega] at this
  exact this
def qT (d : Int × Int × Int) (l : List Int) (x y : Int) : Bool := decide (cnt8 (bitI .and .i64 (l.getD x.toNat default) (l.getD y.toNat default)) < d.1 - d.2.2)
def tellsOk (d : Int × Int × Int) (l : List Int) : Bool := annOk d l && allI l.length fun x => allI x.toNat (qT d l x)
def hidStep (t : Int) (s : Int × Int × Bool) (h : Int) : Int × Int × Bool := if (bitI .and .i64 h t == 0) = true then (bitI .and .i64 s.1 h, bitI .or .i64 s.2.1 h, true) else s
def hidSt (l : List Int) (all t : Int) : Int × Int × Bool := l.foldl (hidStep t) (all, 0, false)
theorem hid_succ {l : List Int} {all t x : Int} (h0 : 0 ≤ x) (h1 : x < l.length) : hidSt (l.take (x + 1).toNat) all t = hidStep t (hidSt (l.take x.toNat) all t) (l.getD x.toNat default) := by
  unfold hidSt; rw [take_succ h0 h1, List.foldl_append]; rfl
def hiddenOk (l : List Int) (all t : Int) : Bool := !(hidSt l all t).2.2 || ((hidSt l all t).1 == 0 && (bitI .or .i64 (hidSt l all t).2.1 t == all))
theorem hid_s (m a b : Bool) : (bif !m then true else bif a then b else false) = (!m || (a && b)) := by cases m <;> cases a <;> cases b <;> rfl
theorem hid_i (m : Bool) (a b c e : Int) : (bif m then bif a != b then true else c != e else false) = !(!m || ((a == b) && (c == e))) := by
  cases m
  · rfl
  · cases h : a == b <;> cases h2 : c == e <;> simp [bne, h, h2]
def hidesL (d : Int × Int × Int) : List Int := handsL (d.1 + d.2.1 + d.2.2) d.2.2
def hidesOk (d : Int × Int × Int) (l : List Int) : Bool := annOk d l && allI (hidesL d).length fun x => hiddenOk l (shlI .i64 1 (d.1 + d.2.1 + d.2.2) - 1) ((hidesL d).getD x.toNat default)
def safeOk (d : Int × Int × Int) (l : List Int) : Bool := tellsOk d l && hidesOk d l


set_option maxRecDepth 20000 in
set_option maxHeartbeats 2000000 in
theorem law14 (d : Int × Int × Int) (hd : i64 d.1 ∧ i64 d.2.1 ∧ i64 d.2.2) : AFn P 14 [cdeal d] (.i (cb true)) [] := by
  refine AFn.of_body Tok 44 Go.Proofs.Try.func14 rfl rfl rfl (by simp) rfl ?_
  rintro ⟨_, _, w0, I0, O0, X0, fx⟩ rfl rfl hT hfx
  refine AWp.seq ?_
  refine AWp.region ?_
  refine AOps.run hT true rfl ?_ ?_
  · repeat' (first | exact trivial | exact Bool.not_or_self _ | refine And.intro ?_ ?_ | (simp; done) | (simp_all; done) | (simp [inR_i64] at *; omega) | decide)
  refine AOps.nil ?_
  repeat (with_reducible first | refine thenNil ?_ | refine blockNil ?_)
  refine AWp.seq ?_
  refine AWp.region ?_
  refine AOps.run hT true rfl ?_ ?_
  · repeat' (first | exact trivial | exact Bool.not_or_self _ | refine And.intro ?_ ?_ | (simp; done) | (simp_all; done) | (simp [inR_i64] at *; omega) | decide)
  refine AOps.callF (T := T) rfl rfl rfl rfl rfl ?_ (toDeal_fn d) (.inl ⟨by repeat' (first | exact trivial | refine And.intro ?_ ?_ | intro _), by repeat' (first | exact trivial | refine And.intro ?_ ?_ | intro _)⟩) rfl ?_
  · repeat' (first | exact trivial | exact Bool.not_or_self _ | refine And.intro ?_ ?_ | (simp; done) | (simp_all; done) | (simp [inR_i64] at *; omega) | decide)
  refine AOps.callF (T := T) rfl rfl rfl rfl rfl ?_ (sHandsOf_fn d hd) (.inl ⟨by repeat' (first | exact trivial | refine And.intro ?_ ?_ | intro _), by repeat' (first | exact trivial | refine And.intro ?_ ?_ | intro _)⟩) rfl ?_
  · repeat' (first | exact trivial | exact Bool.not_or_self _ | refine And.intro ?_ ?_ | (simp; done) | (simp_all; done) | (simp [inR_i64] at *; omega) | decide)
  refine AOps.run hT true rfl ?_ ?_
  · repeat' (first | exact trivial | exact Bool.not_or_self _ | refine And.intro ?_ ?_ | (simp; done) | (simp_all; done) | (simp [inR_i64] at *; omega) | decide)
  refine AOps.nil ?_
  repeat (with_reducible first | refine thenNil ?_ | refine blockNil ?_)
  refine AWp.seq ?_
  refine AWp.region ?_
  refine AOps.run hT true rfl ?_ ?_
  · repeat' (first | exact trivial | exact Bool.not_or_self _ | refine And.intro ?_ ?_ | (simp; done) | (simp_all; done) | (simp [inR_i64] at *; omega) | decide)
  refine AOps.callF (T := T) rfl rfl rfl rfl rfl ?_ (toDeal_fn d) (.inl ⟨by repeat' (first | exact trivial | refine And.intro ?_ ?_ | intro _), by repeat' (first | exact trivial | refine And.intro ?_ ?_ | intro _)⟩) rfl ?_
  · repeat' (first | exact trivial | exact Bool.not_or_self _ | refine And.intro ?_ ?_ | (simp; done) | (simp_all; done) | (simp [inR_i64] at *; omega) | decide)
  refine AOps.callF (T := T) rfl rfl rfl rfl rfl ?_ (HandsOf_fn d hd) (.inl ⟨by repeat' (first | exact trivial | refine And.intro ?_ ?_ | intro _), by repeat' (first | exact trivial | refine And.intro ?_ ?_ | intro _)⟩) rfl ?_
  · repeat' (first | exact trivial | exact Bool.not_or_self _ | refine And.intro ?_ ?_ | (simp; done) | (simp_all; done) | (simp [inR_i64] at *; omega) | decide)
  refine AOps.run hT true rfl ?_ ?_
  · repeat' (first | exact trivial | exact Bool.not_or_self _ | refine And.intro ?_ ?_ | (simp; done) | (simp_all; done) | (simp [inR_i64] at *; omega) | decide)
  refine AOps.nil ?_
  repeat (with_reducible first | refine thenNil ?_ | refine blockNil ?_)
  refine AWp.seq ?_
  refine AWp.seq ?_
  refine AWp.region ?_
  refine AOps.run hT true rfl ?_ ?_
  · repeat' (first | exact trivial | exact Bool.not_or_self _ | refine And.intro ?_ ?_ | (simp; done) | (simp_all; done) | (simp [inR_i64] at *; omega) | decide)
  refine AOps.callF (T := T) rfl rfl rfl rfl rfl ?_ (eqIntS_fn (handsF d) (handsF_len d)) (.inl ⟨by repeat' (first | exact trivial | refine And.intro ?_ ?_ | intro _), by repeat' (first | exact trivial | refine And.intro ?_ ?_ | intro _)⟩) rfl ?_
  · repeat' (first | exact trivial | exact Bool.not_or_self _ | refine And.intro ?_ ?_ | (simp; done) | (simp_all; done) | (simp [inR_i64] at *; omega) | decide)
  refine AOps.run hT true rfl ?_ ?_
  · repeat' (first | exact trivial | exact Bool.not_or_self _ | refine And.intro ?_ ?_ | (simp; done) | (simp_all; done) | (simp [inR_i64] at *; omega) | decide)
  refine AOps.nil ?_
  repeat (with_reducible first | refine thenNil ?_ | refine blockNil ?_)
  refine AWp.cond rfl ?_ (fun hc0 => ?_) (fun hc0 => ?_)
  · repeat' (first | exact trivial | exact Bool.not_or_self _ | refine And.intro ?_ ?_ | (simp; done) | (simp_all; done) | (simp [inR_i64] at *; omega) | decide)
  · simp at hc0
  · try simp only [decide_eq_true_eq, decide_eq_false_iff_not] at hc0
    refine AWp.skip ?_
    repeat (with_reducible first | refine thenNil ?_ | refine blockNil ?_)
    refine AWp.seq ?_
    refine AWp.region ?_
    refine AOps.run hT true rfl ?_ ?_
    · repeat' (first | exact trivial | exact Bool.not_or_self _ | refine And.intro ?_ ?_ | (simp; done) | (simp_all; done) | (simp [inR_i64] at *; omega) | decide)
    refine AOps.nil ?_
    repeat (with_reducible first | refine thenNil ?_ | refine blockNil ?_)
    refine AWp.seq ?_
    refine AWp.region ?_
    refine AOps.run hT true rfl ?_ ?_
    · repeat' (first | exact trivial | exact Bool.not_or_self _ | refine And.intro ?_ ?_ | (simp; done) | (simp_all; done) | (simp [inR_i64] at *; omega) | decide)
    refine AOps.callH (T := T) [2] rfl rfl rfl rfl rfl rfl ?_ (markIntS_fn (handsF d) (handsF_len d)) (.inl ⟨by repeat' (first | exact trivial | refine And.intro ?_ ?_ | intro _), by repeat' (first | exact trivial | refine And.intro ?_ ?_ | intro _)⟩) rfl rfl ?_
    · repeat' (first | exact trivial | exact Bool.not_or_self _ | refine And.intro ?_ ?_ | (simp; done) | (simp_all; done) | (simp [inR_i64] at *; omega) | decide)
    refine AOps.run hT true rfl ?_ ?_
    · repeat' (first | exact trivial | exact Bool.not_or_self _ | refine And.intro ?_ ?_ | (simp; done) | (simp_all; done) | (simp [inR_i64] at *; omega) | decide)
    refine AOps.nil ?_
    repeat (with_reducible first | refine thenNil ?_ | refine blockNil ?_)
    refine AWp.seq ?_
    refine AWp.region ?_
    refine AOps.run hT true rfl ?_ ?_
    · repeat' (first | exact trivial | exact Bool.not_or_self _ | refine And.intro ?_ ?_ | (simp; done) | (simp_all; done) | (simp [inR_i64] at *; omega) | decide)
    refine AOps.nil ?_
    repeat (with_reducible first | refine thenNil ?_ | refine blockNil ?_)
    refine AWp.seq ?_
    refine AWp.region ?_
    refine AOps.run hT true rfl ?_ ?_
    · repeat' (first | exact trivial | exact Bool.not_or_self _ | refine And.intro ?_ ?_ | (simp; done) | (simp_all; done) | (simp [inR_i64] at *; omega) | decide)
    refine AOps.callF (T := T) rfl rfl rfl rfl rfl ?_ (heldIntS_fn (handsF d).length (handsF_len d)) (.inl ⟨by repeat' (first | exact trivial | refine And.intro ?_ ?_ | intro _), by repeat' (first | exact trivial | refine And.intro ?_ ?_ | intro _)⟩) rfl ?_
    · repeat' (first | exact trivial | exact Bool.not_or_self _ | refine And.intro ?_ ?_ | (simp; done) | (simp_all; done) | (simp [inR_i64] at *; omega) | decide)
    refine AOps.run hT true rfl ?_ ?_
    · repeat' (first | exact trivial | exact Bool.not_or_self _ | refine And.intro ?_ ?_ | (simp; done) | (simp_all; done) | (simp [inR_i64] at *; omega) | decide)
    refine AOps.nil ?_
    repeat (with_reducible first | refine thenNil ?_ | refine blockNil ?_)
    refine AWp.seq ?_
    refine AWp.seq ?_
    refine AWp.region ?_
    refine AOps.run hT true rfl ?_ ?_
    · repeat' (first | exact trivial | exact Bool.not_or_self _ | refine And.intro ?_ ?_ | (simp; done) | (simp_all; done) | (simp [inR_i64] at *; omega) | decide)
    refine AOps.nil ?_
    repeat (with_reducible first | refine thenNil ?_ | refine blockNil ?_)
    refine AWp.cond rfl ?_ (fun hc1 => ?_) (fun hc1 => ?_)
    · repeat' (first | exact trivial | exact Bool.not_or_self _ | refine And.intro ?_ ?_ | (simp; done) | (simp_all; done) | (simp [inR_i64] at *; omega) | decide)
    · simp at hc1 <;> omega
    · try simp only [decide_eq_true_eq, decide_eq_false_iff_not] at hc1
      refine AWp.skip ?_
      repeat (with_reducible first | refine thenNil ?_ | refine blockNil ?_)
      refine AWp.seq ?_
      refine AWp.seq ?_
      refine AWp.region ?_
      refine AOps.run hT true rfl ?_ ?_
      · repeat' (first | exact trivial | exact Bool.not_or_self _ | refine And.intro ?_ ?_ | (simp; done) | (simp_all; done) | (simp [inR_i64] at *; omega) | decide)
      refine AOps.nil ?_
      repeat (with_reducible first | refine thenNil ?_ | refine blockNil ?_)
      refine AWp.cond rfl ?_ (fun hc2 => ?_) (fun hc2 => ?_)
      · repeat' (first | exact trivial | exact Bool.not_or_self _ | refine And.intro ?_ ?_ | (simp; done) | (simp_all; done) | (simp [inR_i64] at *; omega) | decide)
      · simp at hc2
      · try simp only [decide_eq_true_eq, decide_eq_false_iff_not] at hc2
        refine AWp.skip ?_
        repeat (with_reducible first | refine thenNil ?_ | refine blockNil ?_)
        refine AWp.seq ?_
        refine AWp.region ?_
        refine AOps.run hT true rfl ?_ ?_
        · repeat' (first | exact trivial | exact Bool.not_or_self _ | refine And.intro ?_ ?_ | (simp; done) | (simp_all; done) | (simp [inR_i64] at *; omega) | decide)
        refine AOps.callF (T := T) rfl rfl rfl rfl rfl ?_ (toDeal_fn d) (.inl ⟨by repeat' (first | exact trivial | refine And.intro ?_ ?_ | intro _), by repeat' (first | exact trivial | refine And.intro ?_ ?_ | intro _)⟩) rfl ?_
        · repeat' (first | exact trivial | exact Bool.not_or_self _ | refine And.intro ?_ ?_ | (simp; done) | (simp_all; done) | (simp [inR_i64] at *; omega) | decide)
        refine AOps.callF (T := T) rfl rfl rfl rfl rfl ?_ (HandsOf_fn d hd) (.inl ⟨by repeat' (first | exact trivial | refine And.intro ?_ ?_ | intro _), by repeat' (first | exact trivial | refine And.intro ?_ ?_ | intro _)⟩) rfl ?_
        · repeat' (first | exact trivial | exact Bool.not_or_self _ | refine And.intro ?_ ?_ | (simp; done) | (simp_all; done) | (simp [inR_i64] at *; omega) | decide)
        refine AOps.run hT true rfl ?_ ?_
        · repeat' (first | exact trivial | exact Bool.not_or_self _ | refine And.intro ?_ ?_ | (simp; done) | (simp_all; done) | (simp [inR_i64] at *; omega) | decide)
        refine AOps.nil ?_
        repeat (with_reducible first | refine thenNil ?_ | refine blockNil ?_)
        refine AWp.seq ?_
        refine AWp.seq ?_
        refine AWp.region ?_
        refine AOps.run hT true rfl ?_ ?_
        · repeat' (first | exact trivial | exact Bool.not_or_self _ | refine And.intro ?_ ?_ | (simp; done) | (simp_all; done) | (simp [inR_i64] at *; omega) | decide)
        refine AOps.callF (T := T) rfl rfl rfl rfl rfl ?_ (eqIntS_fn (handsF d) (handsF_len d)) (.inl ⟨by repeat' (first | exact trivial | refine And.intro ?_ ?_ | intro _), by repeat' (first | exact trivial | refine And.intro ?_ ?_ | intro _)⟩) rfl ?_
        · repeat' (first | exact trivial | exact Bool.not_or_self _ | refine And.intro ?_ ?_ | (simp; done) | (simp_all; done) | (simp [inR_i64] at *; omega) | decide)
        refine AOps.run hT true rfl ?_ ?_
        · repeat' (first | exact trivial | exact Bool.not_or_self _ | refine And.intro ?_ ?_ | (simp; done) | (simp_all; done) | (simp [inR_i64] at *; omega) | decide)
        refine AOps.nil ?_
        repeat (with_reducible first | refine thenNil ?_ | refine blockNil ?_)
        refine AWp.cond rfl ?_ (fun hc3 => ?_) (fun hc3 => ?_)
        · repeat' (first | exact trivial | exact Bool.not_or_self _ | refine And.intro ?_ ?_ | (simp; done) | (simp_all; done) | (simp [inR_i64] at *; omega) | decide)
        · simp at hc3
        · try simp only [decide_eq_true_eq, decide_eq_false_iff_not] at hc3
          refine AWp.skip ?_
          repeat (with_reducible first | refine thenNil ?_ | refine blockNil ?_)
          refine AWp.seq ?_
          refine AWp.region ?_
          refine AOps.run hT true rfl ?_ ?_
          · repeat' (first | exact trivial | exact Bool.not_or_self _ | refine And.intro ?_ ?_ | (simp; done) | (simp_all; done) | (simp [inR_i64] at *; omega) | decide)
          refine AOps.nil ?_
          repeat (with_reducible first | refine thenNil ?_ | refine blockNil ?_)
          refine AWp.seq ?_
          refine AWp.region ?_
          refine AOps.run hT true rfl ?_ ?_
          · repeat' (first | exact trivial | exact Bool.not_or_self _ | refine And.intro ?_ ?_ | (simp; done) | (simp_all; done) | (simp [inR_i64] at *; omega) | decide)
          refine AOps.callF (T := T) rfl rfl rfl rfl rfl ?_ (heldIntS_fn (handsF d).length (handsF_len d)) (.inl ⟨by repeat' (first | exact trivial | refine And.intro ?_ ?_ | intro _), by repeat' (first | exact trivial | refine And.intro ?_ ?_ | intro _)⟩) rfl ?_
          · repeat' (first | exact trivial | exact Bool.not_or_self _ | refine And.intro ?_ ?_ | (simp; done) | (simp_all; done) | (simp [inR_i64] at *; omega) | decide)
          refine AOps.run hT true rfl ?_ ?_
          · repeat' (first | exact trivial | exact Bool.not_or_self _ | refine And.intro ?_ ?_ | (simp; done) | (simp_all; done) | (simp [inR_i64] at *; omega) | decide)
          refine AOps.nil ?_
          repeat (with_reducible first | refine thenNil ?_ | refine blockNil ?_)
          refine AWp.seq ?_
          refine AWp.seq ?_
          refine AWp.region ?_
          refine AOps.run hT true rfl ?_ ?_
          · repeat' (first | exact trivial | exact Bool.not_or_self _ | refine And.intro ?_ ?_ | (simp; done) | (simp_all; done) | (simp [inR_i64] at *; omega) | decide)
          refine AOps.nil ?_
          repeat (with_reducible first | refine thenNil ?_ | refine blockNil ?_)
          refine AWp.cond rfl ?_ (fun hc4 => ?_) (fun hc4 => ?_)
          · repeat' (first | exact trivial | exact Bool.not_or_self _ | refine And.intro ?_ ?_ | (simp; done) | (simp_all; done) | (simp [inR_i64] at *; omega) | decide)
          · simp at hc4 <;> omega
          · try simp only [decide_eq_true_eq, decide_eq_false_iff_not] at hc4
            refine AWp.skip ?_
            repeat (with_reducible first | refine thenNil ?_ | refine blockNil ?_)
            refine AWp.seq ?_
            refine AWp.seq ?_
            refine AWp.region ?_
            refine AOps.run hT true rfl ?_ ?_
            · repeat' (first | exact trivial | exact Bool.not_or_self _ | refine And.intro ?_ ?_ | (simp; done) | (simp_all; done) | (simp [inR_i64] at *; omega) | decide)
            refine AOps.nil ?_
            repeat (with_reducible first | refine thenNil ?_ | refine blockNil ?_)
            refine AWp.cond rfl ?_ (fun hc5 => ?_) (fun hc5 => ?_)
            · repeat' (first | exact trivial | exact Bool.not_or_self _ | refine And.intro ?_ ?_ | (simp; done) | (simp_all; done) | (simp [inR_i64] at *; omega) | decide)
            · simp at hc5
            · try simp only [decide_eq_true_eq, decide_eq_false_iff_not] at hc5
              refine AWp.skip ?_
              repeat (with_reducible first | refine thenNil ?_ | refine blockNil ?_)
              refine AWp.seq ?_
              refine AWp.region ?_
              refine AOps.run hT true rfl ?_ ?_
              · repeat' (first | exact trivial | exact Bool.not_or_self _ | refine And.intro ?_ ?_ | (simp; done) | (simp_all; done) | (simp [inR_i64] at *; omega) | decide)
              refine AOps.nil ?_
              repeat (with_reducible first | refine thenNil ?_ | refine blockNil ?_)
              refine AWp.ret ?_
              repeat (with_reducible first | refine thenRet ?_ | refine blockRet ?_)
              refine EndsIn.ret rfl ?_ ?_
              · repeat' (first | exact trivial | exact Bool.not_or_self _ | refine And.intro ?_ ?_ | (simp; done) | (simp_all; done) | (simp [inR_i64] at *; omega) | decide)
              refine ⟨[], ?_, rfl, rfl, rfl⟩
              rfl

set_option maxRecDepth 20000 in
theorem sAnnOk_fn (d : Int × Int × Int) (l : List Int) (hd : i64 d.1 ∧ i64 d.2.1 ∧ i64 d.2.2) (hl : l.length ≤ 1048576) : AFn P 74 [cdeal d, lI l] (.i (cb (annOk d l))) [] := by
  refine AFn.of_body Tok 43 Go.Proofs.Try.func74 rfl rfl rfl (by simp) rfl ?_
  rintro ⟨_, _, w0, I0, O0, X0, fx⟩ rfl rfl hT hfx
  refine AWp.seq ?_
  refine AWp.region ?_
  refine AOps.run hT true rfl ?_ ?_
  · repeat' (first | exact trivial | exact Bool.not_or_self _ | refine And.intro ?_ ?_ | (simp; done) | (simp_all; done) | (simp [inR_i64] at *; omega) | decide)
  refine AOps.nil ?_
  repeat (with_reducible first | refine thenNil ?_ | refine blockNil ?_)
  refine AWp.seq ?_
  refine AWp.seq ?_
  refine AWp.region ?_
  refine AOps.run hT true rfl ?_ ?_
  · repeat' (first | exact trivial | exact Bool.not_or_self _ | refine And.intro ?_ ?_ | (simp; done) | (simp_all; done) | (simp [inR_i64] at *; omega) | decide)
  refine AOps.callF (T := T) rfl rfl rfl rfl rfl ?_ (sDealOk_fn d) (.inl ⟨by repeat' (first | exact trivial | refine And.intro ?_ ?_ | intro _), by repeat' (first | exact trivial | refine And.intro ?_ ?_ | intro _)⟩) rfl ?_
  · repeat' (first | exact trivial | exact Bool.not_or_self _ | refine And.intro ?_ ?_ | (simp; done) | (simp_all; done) | (simp [inR_i64] at *; omega) | decide)
  refine AOps.run hT true rfl ?_ ?_
  · repeat' (first | exact trivial | exact Bool.not_or_self _ | refine And.intro ?_ ?_ | (simp; done) | (simp_all; done) | (simp [inR_i64] at *; omega) | decide)
  refine AOps.nil ?_
  repeat (with_reducible first | refine thenNil ?_ | refine blockNil ?_)
  refine AWp.cond rfl ?_ (fun hc0 => ?_) (fun hc0 => ?_)
  · repeat' (first | exact trivial | exact Bool.not_or_self _ | refine And.intro ?_ ?_ | (simp; done) | (simp_all; done) | (simp [inR_i64] at *; omega) | decide)
  · try simp only [decide_eq_true_eq, decide_eq_false_iff_not] at hc0
    refine AWp.seq ?_
    refine AWp.region ?_
    refine AOps.run hT true rfl ?_ ?_
    · repeat' (first | exact trivial | exact Bool.not_or_self _ | refine And.intro ?_ ?_ | (simp; done) | (simp_all; done) | (simp [inR_i64] at *; omega) | decide)
    refine AOps.nil ?_
    repeat (with_reducible first | refine thenNil ?_ | refine blockNil ?_)
    refine AWp.ret ?_
    repeat (with_reducible first | refine thenRet ?_ | refine blockRet ?_)
    refine EndsIn.ret rfl ?_ ?_
    · repeat' (first | exact trivial | exact Bool.not_or_self _ | refine And.intro ?_ ?_ | (simp; done) | (simp_all; done) | (simp [inR_i64] at *; omega) | decide)
    refine ⟨[], ?_, rfl, rfl, rfl⟩
    rw [show annOk d l = false by unfold annOk; cases e1 : dealOk d <;> cases e2 : ((l.length : Int) == 0) <;> rw [e1, e2] at hc0 <;> first | rfl | cases hc0]; rfl
  · try simp only [decide_eq_true_eq, decide_eq_false_iff_not] at hc0
    refine AWp.skip ?_
    repeat (with_reducible first | refine thenNil ?_ | refine blockNil ?_)
    refine AWp.seq ?_
    refine AWp.region ?_
    refine AOps.run hT true rfl ?_ ?_
    · repeat' (first | exact trivial | exact Bool.not_or_self _ | refine And.intro ?_ ?_ | (simp; done) | (simp_all; done) | (simp [inR_i64] at *; omega) | decide)
    refine AOps.callF (T := T) rfl rfl rfl rfl rfl ?_ (sHandsOf_fn d hd) (.inl ⟨by repeat' (first | exact trivial | refine And.intro ?_ ?_ | intro _), by repeat' (first | exact trivial | refine And.intro ?_ ?_ | intro _)⟩) rfl ?_
    · repeat' (first | exact trivial | exact Bool.not_or_self _ | refine And.intro ?_ ?_ | (simp; done) | (simp_all; done) | (simp [inR_i64] at *; omega) | decide)
    refine AOps.run hT true rfl ?_ ?_
    · repeat' (first | exact trivial | exact Bool.not_or_self _ | refine And.intro ?_ ?_ | (simp; done) | (simp_all; done) | (simp [inR_i64] at *; omega) | decide)
    refine AOps.nil ?_
    repeat (with_reducible first | refine thenNil ?_ | refine blockNil ?_)
    refine AWp.seq ?_
    refine AWp.seq ?_
    refine AWp.region ?_
    refine AOps.run hT true rfl ?_ ?_
    · repeat' (first | exact trivial | exact Bool.not_or_self _ | refine And.intro ?_ ?_ | (simp; done) | (simp_all; done) | (simp [inR_i64] at *; omega) | decide)
    refine AOps.nil ?_
    repeat (with_reducible first | refine thenNil ?_ | refine blockNil ?_)
    refine AWp.block ?_
    refine AWp.loopS (σ := Int) (fun x => (l.length - x).toNat) (fun x => [(1, .i (lI l)), (5, .osl 1 none), (18, .i (lI l)), (19, .i (ci l.length)), (20, .i (ci x))]) (fun _ => [bD d, oI (handsF d)]) (fun x => 0 ≤ x ∧ x ≤ l.length ∧ allI x.toNat (qA (handsF d) l) = true) (0) ?_ ?_ ?_
    · refine ⟨?_, ?_, rfl, rfl, fun k hk => Nat.lt_of_lt_of_le (hfx k hk) (Nat.le_of_ble_eq_true rfl)⟩
      · repeat' (first | exact Sub.nil | exact rfl | refine Sub.cons ?_ ?_)
      · repeat' (first | exact HTr.nil | exact objEq_refl _ | exact objEq_app1 | exact objEq_nil | exact objEq_mapP | exact objEq_mapI |  exact objEq_set (by first | omega | (simp; omega)) | exact objEq_appS (by simp) (appF_S rfl (fun _ _ => rfl)) | refine HTr.cons ?_ ?_ | refine HTr.dead rfl ?_)
    · exact ⟨by omega, by omega, rfl⟩
    rintro x ⟨h0, h1, h2⟩
    refine AWp.seq ?_
    refine AWp.region ?_
    refine AOps.run hT true rfl ?_ ?_
    · repeat' (first | exact trivial | exact Bool.not_or_self _ | refine And.intro ?_ ?_ | (simp; done) | (simp_all; done) | (simp [inR_i64] at *; omega) | decide)
    refine AOps.nil ?_
    repeat (with_reducible first | refine thenNil ?_ | refine blockNil ?_)
    refine AWp.seq ?_
    refine AWp.cond rfl ?_ (fun hc1 => ?_) (fun hc1 => ?_)
    · repeat' (first | exact trivial | exact Bool.not_or_self _ | refine And.intro ?_ ?_ | (simp; done) | (simp_all; done) | (simp [inR_i64] at *; omega) | decide)
    · try simp only [decide_eq_true_eq, decide_eq_false_iff_not] at hc1
      refine AWp.skip ?_
      repeat (with_reducible first | refine thenNil ?_ | refine blockNil ?_)
      refine AWp.seq ?_
      refine AWp.block ?_
      refine AWp.seq ?_
      refine AWp.region ?_
      refine AOps.run hT true rfl ?_ ?_
      · repeat' (first | exact trivial | exact Bool.not_or_self _ | refine And.intro ?_ ?_ | (simp; done) | (simp_all; done) | (simp [inR_i64] at *; omega) | decide)
      refine AOps.nil ?_
      repeat (with_reducible first | refine thenNil ?_ | refine blockNil ?_)
      refine AWp.seq ?_
      refine AWp.region ?_
      refine AOps.run hT true rfl ?_ ?_
      · repeat' (first | exact trivial | exact Bool.not_or_self _ | refine And.intro ?_ ?_ | (simp; done) | (simp_all; done) | (simp [inR_i64] at *; omega) | decide)
      refine AOps.callF (T := T) rfl rfl rfl rfl rfl ?_ (l13Has_fn (handsF d) (l.getD x.toNat default) (handsF_len d)) (.inl ⟨by repeat' (first | exact trivial | refine And.intro ?_ ?_ | intro _), by repeat' (first | exact trivial | refine And.intro ?_ ?_ | intro _)⟩) rfl ?_
      · repeat' (first | exact trivial | exact Bool.not_or_self _ | refine And.intro ?_ ?_ | (simp; done) | (simp_all; done) | (simp [inR_i64] at *; omega) | decide)
      refine AOps.run hT true rfl ?_ ?_
      · repeat' (first | exact trivial | exact Bool.not_or_self _ | refine And.intro ?_ ?_ | (simp; done) | (simp_all; done) | (simp [inR_i64] at *; omega) | decide)
      refine AOps.nil ?_
      repeat (with_reducible first | refine thenNil ?_ | refine blockNil ?_)
      refine AWp.cond rfl ?_ (fun hc2 => ?_) (fun hc2 => ?_)
      · repeat' (first | exact trivial | exact Bool.not_or_self _ | refine And.intro ?_ ?_ | (simp; done) | (simp_all; done) | (simp [inR_i64] at *; omega) | decide)
      · try simp only [decide_eq_true_eq, decide_eq_false_iff_not] at hc2
        refine AWp.seq ?_
        refine AWp.region ?_
        refine AOps.run hT true rfl ?_ ?_
        · repeat' (first | exact trivial | exact Bool.not_or_self _ | refine And.intro ?_ ?_ | (simp; done) | (simp_all; done) | (simp [inR_i64] at *; omega) | decide)
        refine AOps.nil ?_
        repeat (with_reducible first | refine thenNil ?_ | refine blockNil ?_)
        refine AWp.ret ?_
        repeat (with_reducible first | refine thenRet ?_ | refine blockRet ?_)
        refine EndsIn.ret rfl ?_ ?_
        · repeat' (first | exact trivial | exact Bool.not_or_self _ | refine And.intro ?_ ?_ | (simp; done) | (simp_all; done) | (simp [inR_i64] at *; omega) | decide)
        refine ⟨[], ?_, rfl, rfl, rfl⟩
        rw [show annOk d l = false by unfold annOk; rw [allI_hit h0 hc1 (nt ((q_s _ _ _).symm.trans hc2)), Bool.and_false, Bool.and_false]]; rfl
      · try simp only [decide_eq_true_eq, decide_eq_false_iff_not] at hc2
        refine AWp.skip ?_
        repeat (with_reducible first | refine thenNil ?_ | refine blockNil ?_)
        refine AWp.region ?_
        refine AOps.run hT true rfl ?_ ?_
        · repeat' (first | exact trivial | exact Bool.not_or_self _ | refine And.intro ?_ ?_ | (simp; done) | (simp_all; done) | (simp [inR_i64] at *; omega) | decide)
        refine AOps.nil ?_
        repeat (with_reducible first | refine thenNil ?_ | refine blockNil ?_)
        refine Exists.intro (x + 1) (And.intro (And.intro ?_ ?_) ?_)
        · simp at *; omega
        · exact ⟨by omega, by omega, allI_next h0 h2 (nb ((q_s _ _ _).symm.trans hc2))⟩
        · refine ⟨?_, ?_, rfl, rfl, fun k hk => Nat.lt_of_lt_of_le (hfx k hk) (Nat.le_of_ble_eq_true rfl)⟩
          · repeat' (first | exact Sub.nil | exact rfl | refine Sub.cons ?_ ?_)
          · repeat' (first | exact HTr.nil | exact objEq_refl _ | exact objEq_app1 | exact objEq_nil | exact objEq_mapP | exact objEq_mapI |  exact objEq_set (by first | omega | (simp; omega)) | exact objEq_appS (by simp) (appF_S rfl (fun _ _ => rfl)) | refine HTr.cons ?_ ?_ | refine HTr.dead rfl ?_)
    · try simp only [decide_eq_true_eq, decide_eq_false_iff_not] at hc1
      refine AWp.exit ?_
      repeat (with_reducible first | refine thenExit ?_ | refine blockSame ?_ | refine blockOther rfl ?_ | refine thenNil ?_ | refine blockNil ?_)
      refine AWp.seq ?_
      refine AWp.region ?_
      refine AOps.run hT true rfl ?_ ?_
      · repeat' (first | exact trivial | exact Bool.not_or_self _ | refine And.intro ?_ ?_ | (simp; done) | (simp_all; done) | (simp [inR_i64] at *; omega) | decide)
      refine AOps.nil ?_
      repeat (with_reducible first | refine thenNil ?_ | refine blockNil ?_)
      refine AWp.ret ?_
      repeat (with_reducible first | refine thenRet ?_ | refine blockRet ?_)
      refine EndsIn.ret rfl ?_ ?_
      · repeat' (first | exact trivial | exact Bool.not_or_self _ | refine And.intro ?_ ?_ | (simp; done) | (simp_all; done) | (simp [inR_i64] at *; omega) | decide)
      refine ⟨[], ?_, rfl, rfl, rfl⟩
      rw [show annOk d l = true by unfold annOk; rw [allI_end hc1 h1 h2]; cases e1 : dealOk d <;> cases e2 : ((l.length : Int) == 0) <;> rw [e1, e2] at hc0 <;> first | rfl | cases hc0]; rfl

set_option maxRecDepth 20000 in
theorem rising_fn (l : List Int) (hl : l.length ≤ 1048576) : AFn P 104 [lI l, ci 128] (.i (cb (allI l.length (qR l)))) [] := by
  refine AFn.of_body Tok 33 Go.Proofs.Try.func104 rfl rfl rfl (by simp) rfl ?_
  rintro ⟨_, _, w0, I0, O0, X0, fx⟩ rfl rfl hT hfx
  refine AWp.seq ?_
  refine AWp.region ?_
  refine AOps.run hT true rfl ?_ ?_
  · repeat' (first | exact trivial | exact Bool.not_or_self _ | refine And.intro ?_ ?_ | (simp; done) | (simp_all; done) | (simp [inR_i64] at *; omega) | decide)
  refine AOps.nil ?_
  repeat (with_reducible first | refine thenNil ?_ | refine blockNil ?_)
  refine AWp.seq ?_
  refine AWp.seq ?_
  refine AWp.region ?_
  refine AOps.run hT true rfl ?_ ?_
  · repeat' (first | exact trivial | exact Bool.not_or_self _ | refine And.intro ?_ ?_ | (simp; done) | (simp_all; done) | (simp [inR_i64] at *; omega) | decide)
  refine AOps.nil ?_
  repeat (with_reducible first | refine thenNil ?_ | refine blockNil ?_)
  refine AWp.block ?_
  refine AWp.loopS (σ := Int) (fun x => (l.length - x).toNat) (fun x => [(0, .i (lI l)), (1, .i (ci 128)), (7, .i (lI l)), (8, .i (ci l.length)), (9, .i (ci x))]) (fun _ => []) (fun x => 0 ≤ x ∧ x ≤ l.length ∧ allI x.toNat (qR l) = true) (0) ?_ ?_ ?_
  · refine ⟨?_, ?_, rfl, rfl, fun k hk => Nat.lt_of_lt_of_le (hfx k hk) (Nat.le_of_ble_eq_true rfl)⟩
    · repeat' (first | exact Sub.nil | exact rfl | refine Sub.cons ?_ ?_)
    · repeat' (first | exact HTr.nil | exact objEq_refl _ | exact objEq_app1 | exact objEq_nil | exact objEq_mapP | exact objEq_mapI |  exact objEq_set (by first | omega | (simp; omega)) | exact objEq_appS (by simp) (appF_S rfl (fun _ _ => rfl)) | refine HTr.cons ?_ ?_ | refine HTr.dead rfl ?_)
  · exact ⟨by omega, by omega, rfl⟩
  rintro x ⟨h0, h1, h2⟩
  refine AWp.seq ?_
  refine AWp.region ?_
  refine AOps.run hT true rfl ?_ ?_
  · repeat' (first | exact trivial | exact Bool.not_or_self _ | refine And.intro ?_ ?_ | (simp; done) | (simp_all; done) | (simp [inR_i64] at *; omega) | decide)
  refine AOps.nil ?_
  repeat (with_reducible first | refine thenNil ?_ | refine blockNil ?_)
  refine AWp.seq ?_
  refine AWp.cond rfl ?_ (fun hc0 => ?_) (fun hc0 => ?_)
  · repeat' (first | exact trivial | exact Bool.not_or_self _ | refine And.intro ?_ ?_ | (simp; done) | (simp_all; done) | (simp [inR_i64] at *; omega) | decide)
  · try simp only [decide_eq_true_eq, decide_eq_false_iff_not] at hc0
    refine AWp.skip ?_
    repeat (with_reducible first | refine thenNil ?_ | refine blockNil ?_)
    refine AWp.seq ?_
    refine AWp.block ?_
    refine AWp.seq ?_
    refine AWp.region ?_
    refine AOps.run hT true rfl ?_ ?_
    · repeat' (first | exact trivial | exact Bool.not_or_self _ | refine And.intro ?_ ?_ | (simp; done) | (simp_all; done) | (simp [inR_i64] at *; omega) | decide)
    refine AOps.nil ?_
    repeat (with_reducible first | refine thenNil ?_ | refine blockNil ?_)
    refine AWp.seq ?_
    refine AWp.region ?_
    refine AOps.run hT true rfl ?_ ?_
    · repeat' (first | exact trivial | exact Bool.not_or_self _ | refine And.intro ?_ ?_ | (simp; done) | (simp_all; done) | (simp [inR_i64] at *; omega) | decide)
    refine AOps.callF (T := T) rfl rfl rfl rfl rfl ?_ (within_fn _ _ _) (.inl ⟨by repeat' (first | exact trivial | refine And.intro ?_ ?_ | intro _), by repeat' (first | exact trivial | refine And.intro ?_ ?_ | intro _)⟩) rfl ?_
    · repeat' (first | exact trivial | exact Bool.not_or_self _ | refine And.intro ?_ ?_ | (simp; done) | (simp_all; done) | (simp [inR_i64] at *; omega) | decide)
    refine AOps.run hT true rfl ?_ ?_
    · repeat' (first | exact trivial | exact Bool.not_or_self _ | refine And.intro ?_ ?_ | (simp; done) | (simp_all; done) | (simp [inR_i64] at *; omega) | decide)
    refine AOps.nil ?_
    repeat (with_reducible first | refine thenNil ?_ | refine blockNil ?_)
    refine AWp.cond rfl ?_ (fun hc1 => ?_) (fun hc1 => ?_)
    · repeat' (first | exact trivial | exact Bool.not_or_self _ | refine And.intro ?_ ?_ | (simp; done) | (simp_all; done) | (simp [inR_i64] at *; omega) | decide)
    · try simp only [decide_eq_true_eq, decide_eq_false_iff_not] at hc1
      refine AWp.seq ?_
      refine AWp.region ?_
      refine AOps.run hT true rfl ?_ ?_
      · repeat' (first | exact trivial | exact Bool.not_or_self _ | refine And.intro ?_ ?_ | (simp; done) | (simp_all; done) | (simp [inR_i64] at *; omega) | decide)
      refine AOps.nil ?_
      repeat (with_reducible first | refine thenNil ?_ | refine blockNil ?_)
      refine AWp.ret ?_
      repeat (with_reducible first | refine thenRet ?_ | refine blockRet ?_)
      refine EndsIn.ret rfl ?_ ?_
      · repeat' (first | exact trivial | exact Bool.not_or_self _ | refine And.intro ?_ ?_ | (simp; done) | (simp_all; done) | (simp [inR_i64] at *; omega) | decide)
      refine ⟨[], ?_, rfl, rfl, rfl⟩
      rw [allI_hit h0 hc0 (nt ((q_s _ _ _).symm.trans hc1))]; rfl
    · try simp only [decide_eq_true_eq, decide_eq_false_iff_not] at hc1
      refine AWp.skip ?_
      repeat (with_reducible first | refine thenNil ?_ | refine blockNil ?_)
      refine AWp.region ?_
      refine AOps.run hT true rfl ?_ ?_
      · repeat' (first | exact trivial | exact Bool.not_or_self _ | refine And.intro ?_ ?_ | (simp; done) | (simp_all; done) | (simp [inR_i64] at *; omega) | decide)
      refine AOps.nil ?_
      repeat (with_reducible first | refine thenNil ?_ | refine blockNil ?_)
      refine Exists.intro (x + 1) (And.intro (And.intro ?_ ?_) ?_)
      · simp at *; omega
      · exact ⟨by omega, by omega, allI_next h0 h2 (nb ((q_s _ _ _).symm.trans hc1))⟩
      · refine ⟨?_, ?_, rfl, rfl, fun k hk => Nat.lt_of_lt_of_le (hfx k hk) (Nat.le_of_ble_eq_true rfl)⟩
        · repeat' (first | exact Sub.nil | exact rfl | refine Sub.cons ?_ ?_)
        · repeat' (first | exact HTr.nil | exact objEq_refl _ | exact objEq_app1 | exact objEq_nil | exact objEq_mapP | exact objEq_mapI |  exact objEq_set (by first | omega | (simp; omega)) | exact objEq_appS (by simp) (appF_S rfl (fun _ _ => rfl)) | refine HTr.cons ?_ ?_ | refine HTr.dead rfl ?_)
  · try simp only [decide_eq_true_eq, decide_eq_false_iff_not] at hc0
    refine AWp.exit ?_
    repeat (with_reducible first | refine thenExit ?_ | refine blockSame ?_ | refine blockOther rfl ?_ | refine thenNil ?_ | refine blockNil ?_)
    refine AWp.seq ?_
    refine AWp.region ?_
    refine AOps.run hT true rfl ?_ ?_
    · repeat' (first | exact trivial | exact Bool.not_or_self _ | refine And.intro ?_ ?_ | (simp; done) | (simp_all; done) | (simp [inR_i64] at *; omega) | decide)
    refine AOps.nil ?_
    repeat (with_reducible first | refine thenNil ?_ | refine blockNil ?_)
    refine AWp.ret ?_
    repeat (with_reducible first | refine thenRet ?_ | refine blockRet ?_)
    refine EndsIn.ret rfl ?_ ?_
    · repeat' (first | exact trivial | exact Bool.not_or_self _ | refine And.intro ?_ ?_ | (simp; done) | (simp_all; done) | (simp [inR_i64] at *; omega) | decide)
    refine ⟨[], ?_, rfl, rfl, rfl⟩
    rw [allI_end hc0 h1 h2]; rfl

set_option maxRecDepth 20000 in
theorem AnnOk_fn (d : Int × Int × Int) (l : List Int) (hd : i64 d.1 ∧ i64 d.2.1 ∧ i64 d.2.2) (hl : l.length ≤ 1048576) : AFn P 76 [cdeal d, lI l] (.i (cb (annOk d l))) [] := by
  refine AFn.of_body Tok 34 Go.Proofs.Try.func76 rfl rfl rfl (by simp) rfl ?_
  rintro ⟨_, _, w0, I0, O0, X0, fx⟩ rfl rfl hT hfx
  refine AWp.seq ?_
  refine AWp.region ?_
  refine AOps.run hT true rfl ?_ ?_
  · repeat' (first | exact trivial | exact Bool.not_or_self _ | refine And.intro ?_ ?_ | (simp; done) | (simp_all; done) | (simp [inR_i64] at *; omega) | decide)
  refine AOps.nil ?_
  repeat (with_reducible first | refine thenNil ?_ | refine blockNil ?_)
  refine AWp.seq ?_
  refine AWp.seq ?_
  refine AWp.region ?_
  refine AOps.run hT true rfl ?_ ?_
  · repeat' (first | exact trivial | exact Bool.not_or_self _ | refine And.intro ?_ ?_ | (simp; done) | (simp_all; done) | (simp [inR_i64] at *; omega) | decide)
  refine AOps.callF (T := T) rfl rfl rfl rfl rfl ?_ (DealOk_fn d) (.inl ⟨by repeat' (first | exact trivial | refine And.intro ?_ ?_ | intro _), by repeat' (first | exact trivial | refine And.intro ?_ ?_ | intro _)⟩) rfl ?_
  · repeat' (first | exact trivial | exact Bool.not_or_self _ | refine And.intro ?_ ?_ | (simp; done) | (simp_all; done) | (simp [inR_i64] at *; omega) | decide)
  refine AOps.run hT true rfl ?_ ?_
  · repeat' (first | exact trivial | exact Bool.not_or_self _ | refine And.intro ?_ ?_ | (simp; done) | (simp_all; done) | (simp [inR_i64] at *; omega) | decide)
  refine AOps.callG (T := T) rfl rfl rfl rfl rfl (fun hg => ?_) (fun hg => rising_fn l hl) (.inl (by repeat' (first | exact trivial | refine And.intro ?_ ?_ | intro _))) rfl ?_
  · repeat' (first | exact trivial | exact Bool.not_or_self _ | refine And.intro ?_ ?_ | (simp; done) | (simp_all; done) | (simp [inR_i64] at *; omega) | decide)
  refine AOps.run hT true rfl ?_ ?_
  · repeat' (first | exact trivial | exact Bool.not_or_self _ | refine And.intro ?_ ?_ | (simp; done) | (simp_all; done) | (simp [inR_i64] at *; omega) | decide)
  refine AOps.nil ?_
  repeat (with_reducible first | refine thenNil ?_ | refine blockNil ?_)
  refine AWp.cond rfl ?_ (fun hc0 => ?_) (fun hc0 => ?_)
  · repeat' (first | exact trivial | exact Bool.not_or_self _ | refine And.intro ?_ ?_ | (simp; done) | (simp_all; done) | (simp [inR_i64] at *; omega) | decide)
  · try simp only [decide_eq_true_eq, decide_eq_false_iff_not] at hc0
    refine AWp.seq ?_
    refine AWp.region ?_
    refine AOps.run hT true rfl ?_ ?_
    · repeat' (first | exact trivial | exact Bool.not_or_self _ | refine And.intro ?_ ?_ | (simp; done) | (simp_all; done) | (simp [inR_i64] at *; omega) | decide)
    refine AOps.nil ?_
    repeat (with_reducible first | refine thenNil ?_ | refine blockNil ?_)
    refine AWp.ret ?_
    repeat (with_reducible first | refine thenRet ?_ | refine blockRet ?_)
    refine EndsIn.ret rfl ?_ ?_
    · repeat' (first | exact trivial | exact Bool.not_or_self _ | refine And.intro ?_ ?_ | (simp; done) | (simp_all; done) | (simp [inR_i64] at *; omega) | decide)
    refine ⟨[], ?_, rfl, rfl, rfl⟩
    rw [show annOk d l = false by unfold annOk; cases e1 : dealOk d <;> cases e2 : ((l.length : Int) == 0) <;> cases e3 : allI l.length (qR l) <;> rw [e1, e2, e3] at hc0 <;> first | rfl | (rw [ann_R e3]; rfl) | cases hc0]; rfl
  · try simp only [decide_eq_true_eq, decide_eq_false_iff_not] at hc0
    refine AWp.skip ?_
    repeat (with_reducible first | refine thenNil ?_ | refine blockNil ?_)
    refine AWp.seq ?_
    refine AWp.region ?_
    refine AOps.run hT true rfl ?_ ?_
    · repeat' (first | exact trivial | exact Bool.not_or_self _ | refine And.intro ?_ ?_ | (simp; done) | (simp_all; done) | (simp [inR_i64] at *; omega) | decide)
    refine AOps.callF (T := T) rfl rfl rfl rfl rfl ?_ (HandsOf_fn d hd) (.inl ⟨by repeat' (first | exact trivial | refine And.intro ?_ ?_ | intro _), by repeat' (first | exact trivial | refine And.intro ?_ ?_ | intro _)⟩) rfl ?_
    · repeat' (first | exact trivial | exact Bool.not_or_self _ | refine And.intro ?_ ?_ | (simp; done) | (simp_all; done) | (simp [inR_i64] at *; omega) | decide)
    refine AOps.run hT true rfl ?_ ?_
    · repeat' (first | exact trivial | exact Bool.not_or_self _ | refine And.intro ?_ ?_ | (simp; done) | (simp_all; done) | (simp [inR_i64] at *; omega) | decide)
    refine AOps.nil ?_
    repeat (with_reducible first | refine thenNil ?_ | refine blockNil ?_)
    refine AWp.seq ?_
    refine AWp.seq ?_
    refine AWp.region ?_
    refine AOps.run hT true rfl ?_ ?_
    · repeat' (first | exact trivial | exact Bool.not_or_self _ | refine And.intro ?_ ?_ | (simp; done) | (simp_all; done) | (simp [inR_i64] at *; omega) | decide)
    refine AOps.nil ?_
    repeat (with_reducible first | refine thenNil ?_ | refine blockNil ?_)
    refine AWp.block ?_
    refine AWp.loopS (σ := Int) (fun x => (l.length - x).toNat) (fun x => [(5, .osl 1 none), (23, .i (lI l)), (24, .i (ci l.length)), (25, .i (ci x))]) (fun _ => [bD d, oI (handsF d)]) (fun x => 0 ≤ x ∧ x ≤ l.length ∧ allI x.toNat (fun x => has1 (handsF d) (l.getD x.toNat default)) = true) (0) ?_ ?_ ?_
    · refine ⟨?_, ?_, rfl, rfl, fun k hk => Nat.lt_of_lt_of_le (hfx k hk) (Nat.le_of_ble_eq_true rfl)⟩
      · repeat' (first | exact Sub.nil | exact rfl | refine Sub.cons ?_ ?_)
      · repeat' (first | exact HTr.nil | exact objEq_refl _ | exact objEq_app1 | exact objEq_nil | exact objEq_mapP | exact objEq_mapI |  exact objEq_set (by first | omega | (simp; omega)) | exact objEq_appS (by simp) (appF_S rfl (fun _ _ => rfl)) | refine HTr.cons ?_ ?_ | refine HTr.dead rfl ?_)
    · exact ⟨by omega, by omega, rfl⟩
    rintro x ⟨h0, h1, h2⟩
    refine AWp.seq ?_
    refine AWp.region ?_
    refine AOps.run hT true rfl ?_ ?_
    · repeat' (first | exact trivial | exact Bool.not_or_self _ | refine And.intro ?_ ?_ | (simp; done) | (simp_all; done) | (simp [inR_i64] at *; omega) | decide)
    refine AOps.nil ?_
    repeat (with_reducible first | refine thenNil ?_ | refine blockNil ?_)
    refine AWp.seq ?_
    refine AWp.cond rfl ?_ (fun hc1 => ?_) (fun hc1 => ?_)
    · repeat' (first | exact trivial | exact Bool.not_or_self _ | refine And.intro ?_ ?_ | (simp; done) | (simp_all; done) | (simp [inR_i64] at *; omega) | decide)
    · try simp only [decide_eq_true_eq, decide_eq_false_iff_not] at hc1
      refine AWp.skip ?_
      repeat (with_reducible first | refine thenNil ?_ | refine blockNil ?_)
      refine AWp.seq ?_
      refine AWp.block ?_
      refine AWp.seq ?_
      refine AWp.region ?_
      refine AOps.run hT true rfl ?_ ?_
      · repeat' (first | exact trivial | exact Bool.not_or_self _ | refine And.intro ?_ ?_ | (simp; done) | (simp_all; done) | (simp [inR_i64] at *; omega) | decide)
      refine AOps.nil ?_
      repeat (with_reducible first | refine thenNil ?_ | refine blockNil ?_)
      refine AWp.seq ?_
      refine AWp.region ?_
      refine AOps.run hT true rfl ?_ ?_
      · repeat' (first | exact trivial | exact Bool.not_or_self _ | refine And.intro ?_ ?_ | (simp; done) | (simp_all; done) | (simp [inR_i64] at *; omega) | decide)
      refine AOps.callF (T := T) rfl rfl rfl rfl rfl ?_ (contains1_fn (handsF d) (l.getD x.toNat default) (handsF_len d)) (.inl ⟨by repeat' (first | exact trivial | refine And.intro ?_ ?_ | intro _), by repeat' (first | exact trivial | refine And.intro ?_ ?_ | intro _)⟩) rfl ?_
      · repeat' (first | exact trivial | exact Bool.not_or_self _ | refine And.intro ?_ ?_ | (simp; done) | (simp_all; done) | (simp [inR_i64] at *; omega) | decide)
      refine AOps.run hT true rfl ?_ ?_
      · repeat' (first | exact trivial | exact Bool.not_or_self _ | refine And.intro ?_ ?_ | (simp; done) | (simp_all; done) | (simp [inR_i64] at *; omega) | decide)
      refine AOps.nil ?_
      repeat (with_reducible first | refine thenNil ?_ | refine blockNil ?_)
      refine AWp.cond rfl ?_ (fun hc2 => ?_) (fun hc2 => ?_)
      · repeat' (first | exact trivial | exact Bool.not_or_self _ | refine And.intro ?_ ?_ | (simp; done) | (simp_all; done) | (simp [inR_i64] at *; omega) | decide)
      · try simp only [decide_eq_true_eq, decide_eq_false_iff_not] at hc2
        refine AWp.seq ?_
        refine AWp.region ?_
        refine AOps.run hT true rfl ?_ ?_
        · repeat' (first | exact trivial | exact Bool.not_or_self _ | refine And.intro ?_ ?_ | (simp; done) | (simp_all; done) | (simp [inR_i64] at *; omega) | decide)
        refine AOps.nil ?_
        repeat (with_reducible first | refine thenNil ?_ | refine blockNil ?_)
        refine AWp.ret ?_
        repeat (with_reducible first | refine thenRet ?_ | refine blockRet ?_)
        refine EndsIn.ret rfl ?_ ?_
        · repeat' (first | exact trivial | exact Bool.not_or_self _ | refine And.intro ?_ ?_ | (simp; done) | (simp_all; done) | (simp [inR_i64] at *; omega) | decide)
        refine ⟨[], ?_, rfl, rfl, rfl⟩
        rw [show annOk d l = false by unfold annOk; rw [allI_hit h0 hc1 (show qA (handsF d) l x = false by unfold qA; rw [nt hc2]; rfl), Bool.and_false, Bool.and_false]]; rfl
      · try simp only [decide_eq_true_eq, decide_eq_false_iff_not] at hc2
        refine AWp.skip ?_
        repeat (with_reducible first | refine thenNil ?_ | refine blockNil ?_)
        refine AWp.region ?_
        refine AOps.run hT true rfl ?_ ?_
        · repeat' (first | exact trivial | exact Bool.not_or_self _ | refine And.intro ?_ ?_ | (simp; done) | (simp_all; done) | (simp [inR_i64] at *; omega) | decide)
        refine AOps.nil ?_
        repeat (with_reducible first | refine thenNil ?_ | refine blockNil ?_)
        refine Exists.intro (x + 1) (And.intro (And.intro ?_ ?_) ?_)
        · simp at *; omega
        · exact ⟨by omega, by omega, allI_next h0 h2 (nb hc2)⟩
        · refine ⟨?_, ?_, rfl, rfl, fun k hk => Nat.lt_of_lt_of_le (hfx k hk) (Nat.le_of_ble_eq_true rfl)⟩
          · repeat' (first | exact Sub.nil | exact rfl | refine Sub.cons ?_ ?_)
          · repeat' (first | exact HTr.nil | exact objEq_refl _ | exact objEq_app1 | exact objEq_nil | exact objEq_mapP | exact objEq_mapI |  exact objEq_set (by first | omega | (simp; omega)) | exact objEq_appS (by simp) (appF_S rfl (fun _ _ => rfl)) | refine HTr.cons ?_ ?_ | refine HTr.dead rfl ?_)
    · try simp only [decide_eq_true_eq, decide_eq_false_iff_not] at hc1
      refine AWp.exit ?_
      repeat (with_reducible first | refine thenExit ?_ | refine blockSame ?_ | refine blockOther rfl ?_ | refine thenNil ?_ | refine blockNil ?_)
      refine AWp.seq ?_
      refine AWp.region ?_
      refine AOps.run hT true rfl ?_ ?_
      · repeat' (first | exact trivial | exact Bool.not_or_self _ | refine And.intro ?_ ?_ | (simp; done) | (simp_all; done) | (simp [inR_i64] at *; omega) | decide)
      refine AOps.nil ?_
      repeat (with_reducible first | refine thenNil ?_ | refine blockNil ?_)
      refine AWp.ret ?_
      repeat (with_reducible first | refine thenRet ?_ | refine blockRet ?_)
      refine EndsIn.ret rfl ?_ ?_
      · repeat' (first | exact trivial | exact Bool.not_or_self _ | refine And.intro ?_ ?_ | (simp; done) | (simp_all; done) | (simp [inR_i64] at *; omega) | decide)
      refine ⟨[], ?_, rfl, rfl, rfl⟩
      rw [show annOk d l = true by unfold annOk; cases e1 : dealOk d <;> cases e2 : ((l.length : Int) == 0) <;> cases e3 : allI l.length (qR l) <;> rw [e1, e2, e3] at hc0 <;> first | (rw [ann_both e3 (allI_end hc1 h1 h2)]; rfl) | cases hc0]; rfl

set_option maxRecDepth 20000 in
theorem law20 (d : Int × Int × Int) (l : List Int) (hd : i64 d.1 ∧ i64 d.2.1 ∧ i64 d.2.2) (hm : l.length ≤ maxLen) : AFn P 20 [cdeal d, lI l] (.i (cb true)) [] := by
  refine AFn.of_body Tok 30 Go.Proofs.Try.func20 rfl rfl rfl (by simp) rfl ?_
  rintro ⟨_, _, w0, I0, O0, X0, fx⟩ rfl rfl hT hfx
  refine AWp.seq ?_
  refine AWp.region ?_
  refine AOps.run hT true rfl ?_ ?_
  · repeat' (first | exact trivial | exact Bool.not_or_self _ | refine And.intro ?_ ?_ | (simp; done) | (simp_all; done) | (simp [inR_i64] at *; omega) | decide)
  refine AOps.nil ?_
  repeat (with_reducible first | refine thenNil ?_ | refine blockNil ?_)
  refine AWp.seq ?_
  refine AWp.seq ?_
  refine AWp.region ?_
  refine AOps.run hT true rfl ?_ ?_
  · repeat' (first | exact trivial | exact Bool.not_or_self _ | refine And.intro ?_ ?_ | (simp; done) | (simp_all; done) | (simp [inR_i64] at *; omega) | decide)
  refine AOps.nil ?_
  repeat (with_reducible first | refine thenNil ?_ | refine blockNil ?_)
  refine AWp.cond rfl ?_ (fun hc0 => ?_) (fun hc0 => ?_)
  · repeat' (first | exact trivial | exact Bool.not_or_self _ | refine And.intro ?_ ?_ | (simp; done) | (simp_all; done) | (simp [inR_i64] at *; omega) | decide)
  · try simp only [decide_eq_true_eq, decide_eq_false_iff_not] at hc0
    refine AWp.seq ?_
    skip
    refine AWp.region ?_
    refine AOps.run hT true rfl ?_ ?_
    · repeat' (first | exact trivial | exact Bool.not_or_self _ | refine And.intro ?_ ?_ | (simp; done) | (simp_all; done) | (simp [inR_i64] at *; omega) | decide)
    refine AOps.nil ?_
    repeat (with_reducible first | refine thenNil ?_ | refine blockNil ?_)
    refine AWp.ret ?_
    repeat (with_reducible first | refine thenRet ?_ | refine blockRet ?_)
    refine EndsIn.ret rfl ?_ ?_
    · repeat' (first | exact trivial | exact Bool.not_or_self _ | refine And.intro ?_ ?_ | (simp; done) | (simp_all; done) | (simp [inR_i64] at *; omega) | decide)
    refine ⟨[], ?_, rfl, rfl, rfl⟩
    rfl
  · try simp only [decide_eq_true_eq, decide_eq_false_iff_not] at hc0
    refine AWp.skip ?_
    repeat (with_reducible first | refine thenNil ?_ | refine blockNil ?_)
    refine AWp.seq ?_
    have hl : l.length ≤ 1048576 := by omega
    refine AWp.region ?_
    refine AOps.run hT true rfl ?_ ?_
    · repeat' (first | exact trivial | exact Bool.not_or_self _ | refine And.intro ?_ ?_ | (simp; done) | (simp_all; done) | (simp [inR_i64] at *; omega) | decide)
    refine AOps.callF (T := T) rfl rfl rfl rfl rfl ?_ (toDeal_fn d) (.inl ⟨by repeat' (first | exact trivial | refine And.intro ?_ ?_ | intro _), by repeat' (first | exact trivial | refine And.intro ?_ ?_ | intro _)⟩) rfl ?_
    · repeat' (first | exact trivial | exact Bool.not_or_self _ | refine And.intro ?_ ?_ | (simp; done) | (simp_all; done) | (simp [inR_i64] at *; omega) | decide)
    refine AOps.run hT true rfl ?_ ?_
    · repeat' (first | exact trivial | exact Bool.not_or_self _ | refine And.intro ?_ ?_ | (simp; done) | (simp_all; done) | (simp [inR_i64] at *; omega) | decide)
    refine AOps.callF (T := T) rfl rfl rfl rfl rfl ?_ (toIntS_fn l hl) (.inl ⟨by repeat' (first | exact trivial | refine And.intro ?_ ?_ | intro _), by repeat' (first | exact trivial | refine And.intro ?_ ?_ | intro _)⟩) rfl ?_
    · repeat' (first | exact trivial | exact Bool.not_or_self _ | refine And.intro ?_ ?_ | (simp; done) | (simp_all; done) | (simp [inR_i64] at *; omega) | decide)
    refine AOps.callF (T := T) rfl rfl rfl rfl rfl ?_ (sAnnOk_fn d l hd hl) (.inl ⟨by repeat' (first | exact trivial | refine And.intro ?_ ?_ | intro _), by repeat' (first | exact trivial | refine And.intro ?_ ?_ | intro _)⟩) rfl ?_
    · repeat' (first | exact trivial | exact Bool.not_or_self _ | refine And.intro ?_ ?_ | (simp; done) | (simp_all; done) | (simp [inR_i64] at *; omega) | decide)
    refine AOps.run hT true rfl ?_ ?_
    · repeat' (first | exact trivial | exact Bool.not_or_self _ | refine And.intro ?_ ?_ | (simp; done) | (simp_all; done) | (simp [inR_i64] at *; omega) | decide)
    refine AOps.nil ?_
    repeat (with_reducible first | refine thenNil ?_ | refine blockNil ?_)
    refine AWp.seq ?_
    refine AWp.region ?_
    refine AOps.run hT true rfl ?_ ?_
    · repeat' (first | exact trivial | exact Bool.not_or_self _ | refine And.intro ?_ ?_ | (simp; done) | (simp_all; done) | (simp [inR_i64] at *; omega) | decide)
    refine AOps.callF (T := T) rfl rfl rfl rfl rfl ?_ (toIntS_fn l hl) (.inl ⟨by repeat' (first | exact trivial | refine And.intro ?_ ?_ | intro _), by repeat' (first | exact trivial | refine And.intro ?_ ?_ | intro _)⟩) rfl ?_
    · repeat' (first | exact trivial | exact Bool.not_or_self _ | refine And.intro ?_ ?_ | (simp; done) | (simp_all; done) | (simp [inR_i64] at *; omega) | decide)
    refine AOps.run hT true rfl ?_ ?_
    · repeat' (first | exact trivial | exact Bool.not_or_self _ | refine And.intro ?_ ?_ | (simp; done) | (simp_all; done) | (simp [inR_i64] at *; omega) | decide)
    refine AOps.nil ?_
    repeat (with_reducible first | refine thenNil ?_ | refine blockNil ?_)
    refine AWp.seq ?_
    refine AWp.region ?_
    refine AOps.run hT true rfl ?_ ?_
    · repeat' (first | exact trivial | exact Bool.not_or_self _ | refine And.intro ?_ ?_ | (simp; done) | (simp_all; done) | (simp [inR_i64] at *; omega) | decide)
    refine AOps.callF (T := T) rfl rfl rfl rfl rfl ?_ (toDeal_fn d) (.inl ⟨by repeat' (first | exact trivial | refine And.intro ?_ ?_ | intro _), by repeat' (first | exact trivial | refine And.intro ?_ ?_ | intro _)⟩) rfl ?_
    · repeat' (first | exact trivial | exact Bool.not_or_self _ | refine And.intro ?_ ?_ | (simp; done) | (simp_all; done) | (simp [inR_i64] at *; omega) | decide)
    refine AOps.run hT true rfl ?_ ?_
    · repeat' (first | exact trivial | exact Bool.not_or_self _ | refine And.intro ?_ ?_ | (simp; done) | (simp_all; done) | (simp [inR_i64] at *; omega) | decide)
    refine AOps.callF (T := T) rfl rfl rfl rfl rfl ?_ (AnnOk_fn d l hd hl) (.inl ⟨by repeat' (first | exact trivial | refine And.intro ?_ ?_ | intro _), by repeat' (first | exact trivial | refine And.intro ?_ ?_ | intro _)⟩) rfl ?_
    · repeat' (first | exact trivial | exact Bool.not_or_self _ | refine And.intro ?_ ?_ | (simp; done) | (simp_all; done) | (simp [inR_i64] at *; omega) | decide)
    refine AOps.run hT true rfl ?_ ?_
    · repeat' (first | exact trivial | exact Bool.not_or_self _ | refine And.intro ?_ ?_ | (simp; done) | (simp_all; done) | (simp [inR_i64] at *; omega) | decide)
    refine AOps.nil ?_
    repeat (with_reducible first | refine thenNil ?_ | refine blockNil ?_)
    refine AWp.seq ?_
    refine AWp.seq ?_
    refine AWp.region ?_
    refine AOps.run hT true rfl ?_ ?_
    · repeat' (first | exact trivial | exact Bool.not_or_self _ | refine And.intro ?_ ?_ | (simp; done) | (simp_all; done) | (simp [inR_i64] at *; omega) | decide)
    refine AOps.nil ?_
    repeat (with_reducible first | refine thenNil ?_ | refine blockNil ?_)
    refine AWp.cond rfl ?_ (fun hc1 => ?_) (fun hc1 => ?_)
    · repeat' (first | exact trivial | exact Bool.not_or_self _ | refine And.intro ?_ ?_ | (simp; done) | (simp_all; done) | (simp [inR_i64] at *; omega) | decide)
    · simp at hc1
    · try simp only [decide_eq_true_eq, decide_eq_false_iff_not] at hc1
      refine AWp.skip ?_
      repeat (with_reducible first | refine thenNil ?_ | refine blockNil ?_)
      refine AWp.seq ?_
      refine AWp.seq ?_
      refine AWp.region ?_
      refine AOps.run hT true rfl ?_ ?_
      · repeat' (first | exact trivial | exact Bool.not_or_self _ | refine And.intro ?_ ?_ | (simp; done) | (simp_all; done) | (simp [inR_i64] at *; omega) | decide)
      refine AOps.callF (T := T) rfl rfl rfl rfl rfl ?_ (toIntS_fn l hl) (.inl ⟨by repeat' (first | exact trivial | refine And.intro ?_ ?_ | intro _), by repeat' (first | exact trivial | refine And.intro ?_ ?_ | intro _)⟩) rfl ?_
      · repeat' (first | exact trivial | exact Bool.not_or_self _ | refine And.intro ?_ ?_ | (simp; done) | (simp_all; done) | (simp [inR_i64] at *; omega) | decide)
      refine AOps.callF (T := T) rfl rfl rfl rfl rfl ?_ (eqIntS_fn l hl) (.inl ⟨by repeat' (first | exact trivial | refine And.intro ?_ ?_ | intro _), by repeat' (first | exact trivial | refine And.intro ?_ ?_ | intro _)⟩) rfl ?_
      · repeat' (first | exact trivial | exact Bool.not_or_self _ | refine And.intro ?_ ?_ | (simp; done) | (simp_all; done) | (simp [inR_i64] at *; omega) | decide)
      refine AOps.run hT true rfl ?_ ?_
      · repeat' (first | exact trivial | exact Bool.not_or_self _ | refine And.intro ?_ ?_ | (simp; done) | (simp_all; done) | (simp [inR_i64] at *; omega) | decide)
      refine AOps.nil ?_
      repeat (with_reducible first | refine thenNil ?_ | refine blockNil ?_)
      refine AWp.cond rfl ?_ (fun hc2 => ?_) (fun hc2 => ?_)
      · repeat' (first | exact trivial | exact Bool.not_or_self _ | refine And.intro ?_ ?_ | (simp; done) | (simp_all; done) | (simp [inR_i64] at *; omega) | decide)
      · simp at hc2
      · try simp only [decide_eq_true_eq, decide_eq_false_iff_not] at hc2
        refine AWp.skip ?_
        repeat (with_reducible first | refine thenNil ?_ | refine blockNil ?_)
        refine AWp.seq ?_
        refine AWp.region ?_
        refine AOps.run hT true rfl ?_ ?_
        · repeat' (first | exact trivial | exact Bool.not_or_self _ | refine And.intro ?_ ?_ | (simp; done) | (simp_all; done) | (simp [inR_i64] at *; omega) | decide)
        refine AOps.nil ?_
        repeat (with_reducible first | refine thenNil ?_ | refine blockNil ?_)
        refine AWp.ret ?_
        repeat (with_reducible first | refine thenRet ?_ | refine blockRet ?_)
        refine EndsIn.ret rfl ?_ ?_
        · repeat' (first | exact trivial | exact Bool.not_or_self _ | refine And.intro ?_ ?_ | (simp; done) | (simp_all; done) | (simp [inR_i64] at *; omega) | decide)
        refine ⟨[], ?_, rfl, rfl, rfl⟩
        rfl

set_option maxRecDepth 20000 in
theorem apart_fn (d : Int × Int × Int) (a b : Int) (hok : dealOk d = true) (ha : 0 ≤ a ∧ a < 128) (hb : 0 ≤ b ∧ b < 128) : AFn P 108 [cdeal d, ci a, ci b] (.i (cb (decide (cnt8 (bitI .and .i64 a b) < d.1 - d.2.2)))) [] := by
  refine AFn.of_body Tok 18 Go.Proofs.Try.func108 rfl rfl rfl (by simp) rfl ?_
  rintro ⟨_, _, w0, I0, O0, X0, fx⟩ rfl rfl hT hfx
  obtain ⟨hd1, hd2, hd3, hd4⟩ := deal_cards hok
  have hr := and_range ha hb
  have hoc : AFn P 115 [.c (.int .u64 (IntKind.u64.wrap (bitI .and .i64 a b)))] (.i (ci (cnt8 (bitI .and .i64 a b)))) [] := by rw [wrap_u64 hr.1 hr.2]; exact OnesCount_fn _ hr.1 hr.2
  refine AWp.seq ?_
  refine AWp.region ?_
  refine AOps.run hT true rfl ?_ ?_
  · repeat' (first | exact trivial | exact Bool.not_or_self _ | refine And.intro ?_ ?_ | (simp; done) | (simp_all; done) | (simp [inR_i64] at *; omega) | decide)
  refine AOps.nil ?_
  repeat (with_reducible first | refine thenNil ?_ | refine blockNil ?_)
  refine AWp.seq ?_
  refine AWp.regionAny mixed [[], [], [0, 1], [0, 1, 2], [0, 1, 2, 3], [], [5], [], [7], [5, 6, 7, 8], [0, 1, 2, 3, 4, 5, 6, 7, 8, 9], [0, 1, 2, 3, 4, 5, 6, 7, 8, 9, 10]] [] [_, _, _, _, _, _, _, _, _, _, _, _] [_] rfl (by decide) rfl ⟨⟨OpStep.of_astep hT (nw := true) rfl ⟨_, rfl, rfl⟩ ?_, trivial⟩, ⟨OpStep.of_astep hT (nw := true) rfl ⟨_, rfl, rfl⟩ ?_, trivial⟩, ⟨OpStep.of_astep hT (nw := true) rfl ⟨_, rfl, rfl⟩ ?_, trivial⟩, ⟨OpStep.of_astep hT (nw := true) rfl ⟨_, rfl, rfl⟩ ?_, trivial⟩, ⟨OpStep.of_call (T := T) (H2 := []) rfl rfl rfl rfl rfl ?_ (hoc) (.inl ⟨by repeat' (first | exact trivial | refine And.intro ?_ ?_ | intro _), by repeat' (first | exact trivial | refine And.intro ?_ ?_ | intro _)⟩) rfl, trivial⟩, ⟨OpStep.of_astep hT (nw := true) rfl ⟨_, rfl, rfl⟩ ?_, trivial⟩, ⟨OpStep.of_astep hT (nw := true) rfl ⟨_, rfl, rfl⟩ ?_, trivial⟩, ⟨OpStep.of_astep hT (nw := true) rfl ⟨_, rfl, rfl⟩ ?_, trivial⟩, ⟨OpStep.of_astep hT (nw := true) rfl ⟨_, rfl, rfl⟩ ?_, trivial⟩, ⟨OpStep.of_astep hT (nw := true) rfl ⟨_, rfl, rfl⟩ ?_, trivial⟩, ⟨OpStep.of_astep hT (nw := true) rfl ⟨_, rfl, rfl⟩ ?_, trivial⟩, ⟨OpStep.of_astep hT (nw := true) rfl ⟨_, rfl, rfl⟩ ?_, trivial⟩, trivial⟩ ?_
  · repeat' (first | exact trivial | exact Bool.not_or_self _ | refine And.intro ?_ ?_ | (simp; done) | (simp_all; done) | (simp [inR_i64] at *; omega) | decide)
  · repeat' (first | exact trivial | exact Bool.not_or_self _ | refine And.intro ?_ ?_ | (simp; done) | (simp_all; done) | (simp [inR_i64] at *; omega) | decide)
  · repeat' (first | exact trivial | exact Bool.not_or_self _ | refine And.intro ?_ ?_ | (simp; done) | (simp_all; done) | (simp [inR_i64] at *; omega) | decide)
  · repeat' (first | exact trivial | exact Bool.not_or_self _ | refine And.intro ?_ ?_ | (simp; done) | (simp_all; done) | (simp [inR_i64] at *; omega) | decide)
  · repeat' (first | exact trivial | exact Bool.not_or_self _ | refine And.intro ?_ ?_ | (simp; done) | (simp_all; done) | (simp [inR_i64] at *; omega) | decide)
  · repeat' (first | exact trivial | exact Bool.not_or_self _ | refine And.intro ?_ ?_ | (simp; done) | (simp_all; done) | (simp [inR_i64] at *; omega) | decide)
  · repeat' (first | exact trivial | exact Bool.not_or_self _ | refine And.intro ?_ ?_ | (simp; done) | (simp_all; done) | (simp [inR_i64] at *; omega) | decide)
  · repeat' (first | exact trivial | exact Bool.not_or_self _ | refine And.intro ?_ ?_ | (simp; done) | (simp_all; done) | (simp [inR_i64] at *; omega) | decide)
  · repeat' (first | exact trivial | exact Bool.not_or_self _ | refine And.intro ?_ ?_ | (simp; done) | (simp_all; done) | (simp [inR_i64] at *; omega) | decide)
  · repeat' (first | exact trivial | exact Bool.not_or_self _ | refine And.intro ?_ ?_ | (simp; done) | (simp_all; done) | (simp [inR_i64] at *; omega) | decide)
  · repeat' (first | exact trivial | exact Bool.not_or_self _ | refine And.intro ?_ ?_ | (simp; done) | (simp_all; done) | (simp [inR_i64] at *; omega) | decide)
  · repeat' (first | exact trivial | exact Bool.not_or_self _ | refine And.intro ?_ ?_ | (simp; done) | (simp_all; done) | (simp [inR_i64] at *; omega) | decide)
  repeat (with_reducible first | refine thenNil ?_ | refine blockNil ?_)
  refine AWp.ret ?_
  repeat (with_reducible first | refine thenRet ?_ | refine blockRet ?_)
  refine EndsIn.ret rfl ?_ ?_
  · repeat' (first | exact trivial | exact Bool.not_or_self _ | refine And.intro ?_ ?_ | (simp; done) | (simp_all; done) | (simp [inR_i64] at *; omega) | decide)
  refine ⟨[], ?_, rfl, rfl, rfl⟩
  rfl

set_option maxRecDepth 20000 in
theorem sTells_fn (d : Int × Int × Int) (l : List Int) (hd : i64 d.1 ∧ i64 d.2.1 ∧ i64 d.2.2) (hl : l.length ≤ 1048576) : AFn P 80 [cdeal d, lI l] (.i (cb (tellsOk d l))) [] := by
  refine AFn.of_body Tok 40 Go.Proofs.Try.func80 rfl rfl rfl (by simp) rfl ?_
  rintro ⟨_, _, w0, I0, O0, X0, fx⟩ rfl rfl hT hfx
  refine AWp.seq ?_
  refine AWp.region ?_
  refine AOps.run hT true rfl ?_ ?_
  · repeat' (first | exact trivial | exact Bool.not_or_self _ | refine And.intro ?_ ?_ | (simp; done) | (simp_all; done) | (simp [inR_i64] at *; omega) | decide)
  refine AOps.nil ?_
  repeat (with_reducible first | refine thenNil ?_ | refine blockNil ?_)
  refine AWp.seq ?_
  refine AWp.seq ?_
  refine AWp.region ?_
  refine AOps.run hT true rfl ?_ ?_
  · repeat' (first | exact trivial | exact Bool.not_or_self _ | refine And.intro ?_ ?_ | (simp; done) | (simp_all; done) | (simp [inR_i64] at *; omega) | decide)
  refine AOps.callF (T := T) rfl rfl rfl rfl rfl ?_ (sAnnOk_fn d l hd hl) (.inl ⟨by repeat' (first | exact trivial | refine And.intro ?_ ?_ | intro _), by repeat' (first | exact trivial | refine And.intro ?_ ?_ | intro _)⟩) rfl ?_
  · repeat' (first | exact trivial | exact Bool.not_or_self _ | refine And.intro ?_ ?_ | (simp; done) | (simp_all; done) | (simp [inR_i64] at *; omega) | decide)
  refine AOps.run hT true rfl ?_ ?_
  · repeat' (first | exact trivial | exact Bool.not_or_self _ | refine And.intro ?_ ?_ | (simp; done) | (simp_all; done) | (simp [inR_i64] at *; omega) | decide)
  refine AOps.nil ?_
  repeat (with_reducible first | refine thenNil ?_ | refine blockNil ?_)
  refine AWp.cond rfl ?_ (fun hc0 => ?_) (fun hc0 => ?_)
  · repeat' (first | exact trivial | exact Bool.not_or_self _ | refine And.intro ?_ ?_ | (simp; done) | (simp_all; done) | (simp [inR_i64] at *; omega) | decide)
  · try simp only [decide_eq_true_eq, decide_eq_false_iff_not] at hc0
    refine AWp.seq ?_
    refine AWp.region ?_
    refine AOps.run hT true rfl ?_ ?_
    · repeat' (first | exact trivial | exact Bool.not_or_self _ | refine And.intro ?_ ?_ | (simp; done) | (simp_all; done) | (simp [inR_i64] at *; omega) | decide)
    refine AOps.nil ?_
    repeat (with_reducible first | refine thenNil ?_ | refine blockNil ?_)
    refine AWp.ret ?_
    repeat (with_reducible first | refine thenRet ?_ | refine blockRet ?_)
    refine EndsIn.ret rfl ?_ ?_
    · repeat' (first | exact trivial | exact Bool.not_or_self _ | refine And.intro ?_ ?_ | (simp; done) | (simp_all; done) | (simp [inR_i64] at *; omega) | decide)
    refine ⟨[], ?_, rfl, rfl, rfl⟩
    rw [show tellsOk d l = false by unfold tellsOk; rw [show annOk d l = false by simpa using hc0]; rfl]; rfl
  · try simp only [decide_eq_true_eq, decide_eq_false_iff_not] at hc0
    refine AWp.skip ?_
    repeat (with_reducible first | refine thenNil ?_ | refine blockNil ?_)
    refine AWp.seq ?_
    refine AWp.seq ?_
    have hA : annOk d l = true := nb hc0
    obtain ⟨hok, _⟩ := ann_split hA
    obtain ⟨hd1, hd2, hd3, hd4⟩ := deal_cards hok
    refine AWp.region ?_
    refine AOps.run hT true rfl ?_ ?_
    · repeat' (first | exact trivial | exact Bool.not_or_self _ | refine And.intro ?_ ?_ | (simp; done) | (simp_all; done) | (simp [inR_i64] at *; omega) | decide)
    refine AOps.nil ?_
    repeat (with_reducible first | refine thenNil ?_ | refine blockNil ?_)
    refine AWp.block ?_
    refine AWp.loopS (σ := Int) (fun x => (l.length - x).toNat) (fun x => [(1, .i (lI l)), (2, .optr 0 0), (13, .i (lI l)), (14, .i (ci l.length)), (15, .i (ci x))]) (fun _ => [bD d]) (fun x => 0 ≤ x ∧ x ≤ l.length ∧ allI x.toNat (fun x => allI x.toNat (qT d l x)) = true) (0) ?_ ?_ ?_
    · refine ⟨?_, ?_, rfl, rfl, fun k hk => Nat.lt_of_lt_of_le (hfx k hk) (Nat.le_of_ble_eq_true rfl)⟩
      · repeat' (first | exact Sub.nil | exact rfl | refine Sub.cons ?_ ?_)
      · repeat' (first | exact HTr.nil | exact objEq_refl _ | exact objEq_app1 | exact objEq_nil | exact objEq_mapP | exact objEq_mapI |  exact objEq_set (by first | omega | (simp; omega)) | exact objEq_appS (by simp) (appF_S rfl (fun _ _ => rfl)) | refine HTr.cons ?_ ?_ | refine HTr.dead rfl ?_)
    · exact ⟨by omega, by omega, rfl⟩
    rintro x ⟨h0, h1, h2⟩
    refine AWp.seq ?_
    refine AWp.region ?_
    refine AOps.run hT true rfl ?_ ?_
    · repeat' (first | exact trivial | exact Bool.not_or_self _ | refine And.intro ?_ ?_ | (simp; done) | (simp_all; done) | (simp [inR_i64] at *; omega) | decide)
    refine AOps.nil ?_
    repeat (with_reducible first | refine thenNil ?_ | refine blockNil ?_)
    refine AWp.seq ?_
    refine AWp.cond rfl ?_ (fun hc1 => ?_) (fun hc1 => ?_)
    · repeat' (first | exact trivial | exact Bool.not_or_self _ | refine And.intro ?_ ?_ | (simp; done) | (simp_all; done) | (simp [inR_i64] at *; omega) | decide)
    · try simp only [decide_eq_true_eq, decide_eq_false_iff_not] at hc1
      refine AWp.skip ?_
      repeat (with_reducible first | refine thenNil ?_ | refine blockNil ?_)
      refine AWp.seq ?_
      refine AWp.block ?_
      refine AWp.seq ?_
      refine AWp.region ?_
      refine AOps.run hT true rfl ?_ ?_
      · repeat' (first | exact trivial | exact Bool.not_or_self _ | refine And.intro ?_ ?_ | (simp; done) | (simp_all; done) | (simp [inR_i64] at *; omega) | decide)
      refine AOps.nil ?_
      repeat (with_reducible first | refine thenNil ?_ | refine blockNil ?_)
      refine AWp.seq ?_
      refine AWp.region ?_
      refine AOps.run hT true rfl ?_ ?_
      · repeat' (first | exact trivial | exact Bool.not_or_self _ | refine And.intro ?_ ?_ | (simp; done) | (simp_all; done) | (simp [inR_i64] at *; omega) | decide)
      refine AOps.nil ?_
      repeat (with_reducible first | refine thenNil ?_ | refine blockNil ?_)
      refine AWp.block ?_
      refine AWp.loopS (σ := Int) (fun y => (x.toNat - y).toNat) (fun y => [(1, .i (lI l)), (2, .optr 0 0), (6, .i (ci (l.getD x.toNat default))), (13, .i (lI l)), (14, .i (ci l.length)), (15, .i (ci x)), (22, .i (.sl 1 false x.toNat (fun j => ci (l.getD (0 + j) default)))), (23, .i (ci ((x.toNat : Nat) : Int))), (24, .i (ci y))]) (fun _ => [bD d]) (fun y => 0 ≤ y ∧ y ≤ (x.toNat : Int) ∧ allI y.toNat (qT d l x) = true) (0) ?_ ?_ ?_
      · refine ⟨?_, ?_, rfl, rfl, fun k hk => Nat.lt_of_lt_of_le (hfx k hk) (Nat.le_of_ble_eq_true rfl)⟩
        · repeat' (first | exact Sub.nil | exact rfl | refine Sub.cons ?_ ?_)
        · repeat' (first | exact HTr.nil | exact objEq_refl _ | exact objEq_app1 | exact objEq_nil | exact objEq_mapP | exact objEq_mapI |  exact objEq_set (by first | omega | (simp; omega)) | exact objEq_appS (by simp) (appF_S rfl (fun _ _ => rfl)) | refine HTr.cons ?_ ?_ | refine HTr.dead rfl ?_)
      · exact ⟨by omega, by omega, rfl⟩
      rintro y ⟨g0, g1, g2⟩
      refine AWp.seq ?_
      refine AWp.region ?_
      refine AOps.run hT true rfl ?_ ?_
      · repeat' (first | exact trivial | exact Bool.not_or_self _ | refine And.intro ?_ ?_ | (simp; done) | (simp_all; done) | (simp [inR_i64] at *; omega) | decide)
      refine AOps.nil ?_
      repeat (with_reducible first | refine thenNil ?_ | refine blockNil ?_)
      refine AWp.seq ?_
      refine AWp.cond rfl ?_ (fun hc2 => ?_) (fun hc2 => ?_)
      · repeat' (first | exact trivial | exact Bool.not_or_self _ | refine And.intro ?_ ?_ | (simp; done) | (simp_all; done) | (simp [inR_i64] at *; omega) | decide)
      · try simp only [decide_eq_true_eq, decide_eq_false_iff_not] at hc2
        refine AWp.skip ?_
        repeat (with_reducible first | refine thenNil ?_ | refine blockNil ?_)
        refine AWp.seq ?_
        refine AWp.block ?_
        refine AWp.seq ?_
        refine AWp.region ?_
        refine AOps.run hT true rfl ?_ ?_
        · repeat' (first | exact trivial | exact Bool.not_or_self _ | refine And.intro ?_ ?_ | (simp; done) | (simp_all; done) | (simp [inR_i64] at *; omega) | decide)
        refine AOps.nil ?_
        repeat (with_reducible first | refine thenNil ?_ | refine blockNil ?_)
        refine AWp.seq ?_
        have hb : 0 ≤ bitI .and .i64 (l.getD x.toNat default) (l.getD (0 + y.toNat) default) ∧ bitI .and .i64 (l.getD x.toNat default) (l.getD (0 + y.toNat) default) < 128 := by rw [Nat.zero_add]; exact and_range (ann_elem hA h0 hc1) (ann_elem hA g0 (by omega))
        have hb1 := ann_elem hA h0 hc1
        have hb2 : 0 ≤ l.getD (0 + y.toNat) default ∧ l.getD (0 + y.toNat) default < 128 := by rw [Nat.zero_add]; exact ann_elem hA g0 (by omega)
        refine AWp.regionAny mixed [[], [], [0, 1], [0, 1, 2], [], [4], [], [6], [4, 5, 6, 7], [0, 1, 2, 3, 4, 5, 6, 7, 8]] [] [_, _, _, _, _, _, _, _, _, _] [_] rfl (by decide) rfl ⟨⟨OpStep.of_astep hT (nw := true) rfl ⟨_, rfl, rfl⟩ ?_, trivial⟩, ⟨OpStep.of_astep hT (nw := true) rfl ⟨_, rfl, rfl⟩ ?_, trivial⟩, ⟨OpStep.of_astep hT (nw := true) rfl ⟨_, rfl, rfl⟩ ?_, trivial⟩, ⟨OpStep.of_call (T := T) (H2 := []) rfl rfl rfl rfl rfl ?_ (l13Count_fn (bitI .and .i64 (l.getD x.toNat default) (l.getD (0 + y.toNat) default)) hb.1 hb.2) (.inl ⟨by repeat' (first | exact trivial | refine And.intro ?_ ?_ | intro _), by repeat' (first | exact trivial | refine And.intro ?_ ?_ | intro _)⟩) rfl, trivial⟩, ⟨OpStep.of_astep hT (nw := true) rfl ⟨_, rfl, rfl⟩ ?_, trivial⟩, ⟨OpStep.of_astep hT (nw := true) rfl ⟨_, rfl, rfl⟩ ?_, trivial⟩, ⟨OpStep.of_astep hT (nw := true) rfl ⟨_, rfl, rfl⟩ ?_, trivial⟩, ⟨OpStep.of_astep hT (nw := true) rfl ⟨_, rfl, rfl⟩ ?_, trivial⟩, ⟨OpStep.of_astep hT (nw := true) rfl ⟨_, rfl, rfl⟩ ?_, trivial⟩, ⟨OpStep.of_astep hT (nw := true) rfl ⟨_, rfl, rfl⟩ ?_, trivial⟩, trivial⟩ ?_
        · repeat' (first | exact trivial | exact Bool.not_or_self _ | refine And.intro ?_ ?_ | (simp; done) | (simp_all; done) | (simp [inR_i64] at *; omega) | decide)
        · repeat' (first | exact trivial | exact Bool.not_or_self _ | refine And.intro ?_ ?_ | (simp; done) | (simp_all; done) | (simp [inR_i64] at *; omega) | decide)
        · repeat' (first | exact trivial | exact Bool.not_or_self _ | refine And.intro ?_ ?_ | (simp; done) | (simp_all; done) | (simp [inR_i64] at *; omega) | decide)
        · repeat' (first | exact trivial | exact Bool.not_or_self _ | refine And.intro ?_ ?_ | (simp; done) | (simp_all; done) | (simp [inR_i64] at *; omega) | decide)
        · repeat' (first | exact trivial | exact Bool.not_or_self _ | refine And.intro ?_ ?_ | (simp; done) | (simp_all; done) | (simp [inR_i64] at *; omega) | decide)
        · repeat' (first | exact trivial | exact Bool.not_or_self _ | refine And.intro ?_ ?_ | (simp; done) | (simp_all; done) | (simp [inR_i64] at *; omega) | decide)
        · repeat' (first | exact trivial | exact Bool.not_or_self _ | refine And.intro ?_ ?_ | (simp; done) | (simp_all; done) | (simp [inR_i64] at *; omega) | decide)
        · repeat' (first | exact trivial | exact Bool.not_or_self _ | refine And.intro ?_ ?_ | (simp; done) | (simp_all; done) | (simp [inR_i64] at *; omega) | decide)
        · repeat' (first | exact trivial | exact Bool.not_or_self _ | refine And.intro ?_ ?_ | (simp; done) | (simp_all; done) | (simp [inR_i64] at *; omega) | decide)
        · repeat' (first | exact trivial | exact Bool.not_or_self _ | refine And.intro ?_ ?_ | (simp; done) | (simp_all; done) | (simp [inR_i64] at *; omega) | decide)
        repeat (with_reducible first | refine thenNil ?_ | refine blockNil ?_)
        refine AWp.cond rfl ?_ (fun hc3 => ?_) (fun hc3 => ?_)
        · repeat' (first | exact trivial | exact Bool.not_or_self _ | refine And.intro ?_ ?_ | (simp; done) | (simp_all; done) | (simp [inR_i64] at *; omega) | decide)
        · try simp only [decide_eq_true_eq, decide_eq_false_iff_not] at hc3
          refine AWp.seq ?_
          refine AWp.region ?_
          refine AOps.run hT true rfl ?_ ?_
          · repeat' (first | exact trivial | exact Bool.not_or_self _ | refine And.intro ?_ ?_ | (simp; done) | (simp_all; done) | (simp [inR_i64] at *; omega) | decide)
          refine AOps.nil ?_
          repeat (with_reducible first | refine thenNil ?_ | refine blockNil ?_)
          refine AWp.ret ?_
          repeat (with_reducible first | refine thenRet ?_ | refine blockRet ?_)
          refine EndsIn.ret rfl ?_ ?_
          · repeat' (first | exact trivial | exact Bool.not_or_self _ | refine And.intro ?_ ?_ | (simp; done) | (simp_all; done) | (simp [inR_i64] at *; omega) | decide)
          refine ⟨[], ?_, rfl, rfl, rfl⟩
          rw [show tellsOk d l = false by unfold tellsOk; rw [allI_hit h0 hc1 (allI_hit g0 hc2 (by unfold qT; rw [Nat.zero_add] at hc3; rw [decide_eq_false_iff_not]; omega)), Bool.and_false]]; rfl
        · try simp only [decide_eq_true_eq, decide_eq_false_iff_not] at hc3
          refine AWp.skip ?_
          repeat (with_reducible first | refine thenNil ?_ | refine blockNil ?_)
          refine AWp.region ?_
          refine AOps.run hT true rfl ?_ ?_
          · repeat' (first | exact trivial | exact Bool.not_or_self _ | refine And.intro ?_ ?_ | (simp; done) | (simp_all; done) | (simp [inR_i64] at *; omega) | decide)
          refine AOps.nil ?_
          repeat (with_reducible first | refine thenNil ?_ | refine blockNil ?_)
          refine Exists.intro (y + 1) (And.intro (And.intro ?_ ?_) ?_)
          · simp at *; omega
          · exact ⟨by omega, by omega, allI_next g0 g2 (by unfold qT; rw [Nat.zero_add] at hc3; rw [decide_eq_true_eq]; omega)⟩
          · refine ⟨?_, ?_, rfl, rfl, fun k hk => Nat.lt_of_lt_of_le (hfx k hk) (Nat.le_of_ble_eq_true rfl)⟩
            · repeat' (first | exact Sub.nil | exact rfl | refine Sub.cons ?_ ?_)
            · repeat' (first | exact HTr.nil | exact objEq_refl _ | exact objEq_app1 | exact objEq_nil | exact objEq_mapP | exact objEq_mapI |  exact objEq_set (by first | omega | (simp; omega)) | exact objEq_appS (by simp) (appF_S rfl (fun _ _ => rfl)) | refine HTr.cons ?_ ?_ | refine HTr.dead rfl ?_)
      · try simp only [decide_eq_true_eq, decide_eq_false_iff_not] at hc2
        refine AWp.exit ?_
        repeat (with_reducible first | refine thenExit ?_ | refine blockSame ?_ | refine blockOther rfl ?_ | refine thenNil ?_ | refine blockNil ?_)
        refine AWp.region ?_
        refine AOps.run hT true rfl ?_ ?_
        · repeat' (first | exact trivial | exact Bool.not_or_self _ | refine And.intro ?_ ?_ | (simp; done) | (simp_all; done) | (simp [inR_i64] at *; omega) | decide)
        refine AOps.nil ?_
        repeat (with_reducible first | refine thenNil ?_ | refine blockNil ?_)
        refine Exists.intro (x + 1) (And.intro (And.intro ?_ ?_) ?_)
        · simp at *; omega
        · exact ⟨by omega, by omega, allI_next h0 h2 (allI_end hc2 g1 g2)⟩
        · refine ⟨?_, ?_, rfl, rfl, fun k hk => Nat.lt_of_lt_of_le (hfx k hk) (Nat.le_of_ble_eq_true rfl)⟩
          · repeat' (first | exact Sub.nil | exact rfl | refine Sub.cons ?_ ?_)
          · repeat' (first | exact HTr.nil | exact objEq_refl _ | exact objEq_app1 | exact objEq_nil | exact objEq_mapP | exact objEq_mapI |  exact objEq_set (by first | omega | (simp; omega)) | exact objEq_appS (by simp) (appF_S rfl (fun _ _ => rfl)) | refine HTr.cons ?_ ?_ | refine HTr.dead rfl ?_)
    · try simp only [decide_eq_true_eq, decide_eq_false_iff_not] at hc1
      refine AWp.exit ?_
      repeat (with_reducible first | refine thenExit ?_ | refine blockSame ?_ | refine blockOther rfl ?_ | refine thenNil ?_ | refine blockNil ?_)
      refine AWp.seq ?_
      refine AWp.region ?_
      refine AOps.run hT true rfl ?_ ?_
      · repeat' (first | exact trivial | exact Bool.not_or_self _ | refine And.intro ?_ ?_ | (simp; done) | (simp_all; done) | (simp [inR_i64] at *; omega) | decide)
      refine AOps.nil ?_
      repeat (with_reducible first | refine thenNil ?_ | refine blockNil ?_)
      refine AWp.ret ?_
      repeat (with_reducible first | refine thenRet ?_ | refine blockRet ?_)
      refine EndsIn.ret rfl ?_ ?_
      · repeat' (first | exact trivial | exact Bool.not_or_self _ | refine And.intro ?_ ?_ | (simp; done) | (simp_all; done) | (simp [inR_i64] at *; omega) | decide)
      refine ⟨[], ?_, rfl, rfl, rfl⟩
      rw [show tellsOk d l = true by unfold tellsOk; rw [hA, allI_end hc1 h1 h2]; rfl]; rfl

set_option maxRecDepth 20000 in
theorem Tells_fn (d : Int × Int × Int) (l : List Int) (hd : i64 d.1 ∧ i64 d.2.1 ∧ i64 d.2.2) (hl : l.length ≤ 1048576) : AFn P 81 [cdeal d, lI l] (.i (cb (tellsOk d l))) [] := by
  refine AFn.of_body Tok 35 Go.Proofs.Try.func81 rfl rfl rfl (by simp) rfl ?_
  rintro ⟨_, _, w0, I0, O0, X0, fx⟩ rfl rfl hT hfx
  refine AWp.seq ?_
  refine AWp.region ?_
  refine AOps.run hT true rfl ?_ ?_
  · repeat' (first | exact trivial | exact Bool.not_or_self _ | refine And.intro ?_ ?_ | (simp; done) | (simp_all; done) | (simp [inR_i64] at *; omega) | decide)
  refine AOps.nil ?_
  repeat (with_reducible first | refine thenNil ?_ | refine blockNil ?_)
  refine AWp.seq ?_
  refine AWp.seq ?_
  refine AWp.region ?_
  refine AOps.run hT true rfl ?_ ?_
  · repeat' (first | exact trivial | exact Bool.not_or_self _ | refine And.intro ?_ ?_ | (simp; done) | (simp_all; done) | (simp [inR_i64] at *; omega) | decide)
  refine AOps.callF (T := T) rfl rfl rfl rfl rfl ?_ (AnnOk_fn d l hd hl) (.inl ⟨by repeat' (first | exact trivial | refine And.intro ?_ ?_ | intro _), by repeat' (first | exact trivial | refine And.intro ?_ ?_ | intro _)⟩) rfl ?_
  · repeat' (first | exact trivial | exact Bool.not_or_self _ | refine And.intro ?_ ?_ | (simp; done) | (simp_all; done) | (simp [inR_i64] at *; omega) | decide)
  refine AOps.run hT true rfl ?_ ?_
  · repeat' (first | exact trivial | exact Bool.not_or_self _ | refine And.intro ?_ ?_ | (simp; done) | (simp_all; done) | (simp [inR_i64] at *; omega) | decide)
  refine AOps.nil ?_
  repeat (with_reducible first | refine thenNil ?_ | refine blockNil ?_)
  refine AWp.cond rfl ?_ (fun hc0 => ?_) (fun hc0 => ?_)
  · repeat' (first | exact trivial | exact Bool.not_or_self _ | refine And.intro ?_ ?_ | (simp; done) | (simp_all; done) | (simp [inR_i64] at *; omega) | decide)
  · try simp only [decide_eq_true_eq, decide_eq_false_iff_not] at hc0
    refine AWp.seq ?_
    refine AWp.region ?_
    refine AOps.run hT true rfl ?_ ?_
    · repeat' (first | exact trivial | exact Bool.not_or_self _ | refine And.intro ?_ ?_ | (simp; done) | (simp_all; done) | (simp [inR_i64] at *; omega) | decide)
    refine AOps.nil ?_
    repeat (with_reducible first | refine thenNil ?_ | refine blockNil ?_)
    refine AWp.ret ?_
    repeat (with_reducible first | refine thenRet ?_ | refine blockRet ?_)
    refine EndsIn.ret rfl ?_ ?_
    · repeat' (first | exact trivial | exact Bool.not_or_self _ | refine And.intro ?_ ?_ | (simp; done) | (simp_all; done) | (simp [inR_i64] at *; omega) | decide)
    refine ⟨[], ?_, rfl, rfl, rfl⟩
    rw [show tellsOk d l = false by unfold tellsOk; rw [show annOk d l = false by simpa using hc0]; rfl]; rfl
  · try simp only [decide_eq_true_eq, decide_eq_false_iff_not] at hc0
    refine AWp.skip ?_
    repeat (with_reducible first | refine thenNil ?_ | refine blockNil ?_)
    refine AWp.seq ?_
    refine AWp.seq ?_
    have hA : annOk d l = true := nb hc0
    obtain ⟨hok, _⟩ := ann_split hA
    obtain ⟨hd1, hd2, hd3, hd4⟩ := deal_cards hok
    refine AWp.region ?_
    refine AOps.run hT true rfl ?_ ?_
    · repeat' (first | exact trivial | exact Bool.not_or_self _ | refine And.intro ?_ ?_ | (simp; done) | (simp_all; done) | (simp [inR_i64] at *; omega) | decide)
    refine AOps.nil ?_
    repeat (with_reducible first | refine thenNil ?_ | refine blockNil ?_)
    refine AWp.block ?_
    refine AWp.loopS (σ := Int) (fun x => (l.length - x).toNat) (fun x => [(1, .i (lI l)), (2, .optr 0 0), (13, .i (lI l)), (14, .i (ci l.length)), (15, .i (ci x))]) (fun _ => [bD d]) (fun x => 0 ≤ x ∧ x ≤ l.length ∧ allI x.toNat (fun x => allI x.toNat (qT d l x)) = true) (0) ?_ ?_ ?_
    · refine ⟨?_, ?_, rfl, rfl, fun k hk => Nat.lt_of_lt_of_le (hfx k hk) (Nat.le_of_ble_eq_true rfl)⟩
      · repeat' (first | exact Sub.nil | exact rfl | refine Sub.cons ?_ ?_)
      · repeat' (first | exact HTr.nil | exact objEq_refl _ | exact objEq_app1 | exact objEq_nil | exact objEq_mapP | exact objEq_mapI |  exact objEq_set (by first | omega | (simp; omega)) | exact objEq_appS (by simp) (appF_S rfl (fun _ _ => rfl)) | refine HTr.cons ?_ ?_ | refine HTr.dead rfl ?_)
    · exact ⟨by omega, by omega, rfl⟩
    rintro x ⟨h0, h1, h2⟩
    refine AWp.seq ?_
    refine AWp.region ?_
    refine AOps.run hT true rfl ?_ ?_
    · repeat' (first | exact trivial | exact Bool.not_or_self _ | refine And.intro ?_ ?_ | (simp; done) | (simp_all; done) | (simp [inR_i64] at *; omega) | decide)
    refine AOps.nil ?_
    repeat (with_reducible first | refine thenNil ?_ | refine blockNil ?_)
    refine AWp.seq ?_
    refine AWp.cond rfl ?_ (fun hc1 => ?_) (fun hc1 => ?_)
    · repeat' (first | exact trivial | exact Bool.not_or_self _ | refine And.intro ?_ ?_ | (simp; done) | (simp_all; done) | (simp [inR_i64] at *; omega) | decide)
    · try simp only [decide_eq_true_eq, decide_eq_false_iff_not] at hc1
      refine AWp.skip ?_
      repeat (with_reducible first | refine thenNil ?_ | refine blockNil ?_)
      refine AWp.seq ?_
      refine AWp.block ?_
      refine AWp.seq ?_
      refine AWp.region ?_
      refine AOps.run hT true rfl ?_ ?_
      · repeat' (first | exact trivial | exact Bool.not_or_self _ | refine And.intro ?_ ?_ | (simp; done) | (simp_all; done) | (simp [inR_i64] at *; omega) | decide)
      refine AOps.nil ?_
      repeat (with_reducible first | refine thenNil ?_ | refine blockNil ?_)
      refine AWp.seq ?_
      refine AWp.region ?_
      refine AOps.run hT true rfl ?_ ?_
      · repeat' (first | exact trivial | exact Bool.not_or_self _ | refine And.intro ?_ ?_ | (simp; done) | (simp_all; done) | (simp [inR_i64] at *; omega) | decide)
      refine AOps.nil ?_
      repeat (with_reducible first | refine thenNil ?_ | refine blockNil ?_)
      refine AWp.block ?_
      refine AWp.loopS (σ := Int) (fun y => (x.toNat - y).toNat) (fun y => [(1, .i (lI l)), (2, .optr 0 0), (6, .i (ci (l.getD x.toNat default))), (13, .i (lI l)), (14, .i (ci l.length)), (15, .i (ci x)), (22, .i (.sl 1 false x.toNat (fun j => ci (l.getD (0 + j) default)))), (23, .i (ci ((x.toNat : Nat) : Int))), (24, .i (ci y))]) (fun _ => [bD d]) (fun y => 0 ≤ y ∧ y ≤ (x.toNat : Int) ∧ allI y.toNat (qT d l x) = true) (0) ?_ ?_ ?_
      · refine ⟨?_, ?_, rfl, rfl, fun k hk => Nat.lt_of_lt_of_le (hfx k hk) (Nat.le_of_ble_eq_true rfl)⟩
        · repeat' (first | exact Sub.nil | exact rfl | refine Sub.cons ?_ ?_)
        · repeat' (first | exact HTr.nil | exact objEq_refl _ | exact objEq_app1 | exact objEq_nil | exact objEq_mapP | exact objEq_mapI |  exact objEq_set (by first | omega | (simp; omega)) | exact objEq_appS (by simp) (appF_S rfl (fun _ _ => rfl)) | refine HTr.cons ?_ ?_ | refine HTr.dead rfl ?_)
      · exact ⟨by omega, by omega, rfl⟩
      rintro y ⟨g0, g1, g2⟩
      refine AWp.seq ?_
      refine AWp.region ?_
      refine AOps.run hT true rfl ?_ ?_
      · repeat' (first | exact trivial | exact Bool.not_or_self _ | refine And.intro ?_ ?_ | (simp; done) | (simp_all; done) | (simp [inR_i64] at *; omega) | decide)
      refine AOps.nil ?_
      repeat (with_reducible first | refine thenNil ?_ | refine blockNil ?_)
      refine AWp.seq ?_
      refine AWp.cond rfl ?_ (fun hc2 => ?_) (fun hc2 => ?_)
      · repeat' (first | exact trivial | exact Bool.not_or_self _ | refine And.intro ?_ ?_ | (simp; done) | (simp_all; done) | (simp [inR_i64] at *; omega) | decide)
      · try simp only [decide_eq_true_eq, decide_eq_false_iff_not] at hc2
        refine AWp.skip ?_
        repeat (with_reducible first | refine thenNil ?_ | refine blockNil ?_)
        refine AWp.seq ?_
        refine AWp.block ?_
        refine AWp.seq ?_
        refine AWp.region ?_
        refine AOps.run hT true rfl ?_ ?_
        · repeat' (first | exact trivial | exact Bool.not_or_self _ | refine And.intro ?_ ?_ | (simp; done) | (simp_all; done) | (simp [inR_i64] at *; omega) | decide)
        refine AOps.nil ?_
        repeat (with_reducible first | refine thenNil ?_ | refine blockNil ?_)
        refine AWp.seq ?_
        have hb : 0 ≤ bitI .and .i64 (l.getD x.toNat default) (l.getD (0 + y.toNat) default) ∧ bitI .and .i64 (l.getD x.toNat default) (l.getD (0 + y.toNat) default) < 128 := by rw [Nat.zero_add]; exact and_range (ann_elem hA h0 hc1) (ann_elem hA g0 (by omega))
        have hb1 := ann_elem hA h0 hc1
        have hb2 : 0 ≤ l.getD (0 + y.toNat) default ∧ l.getD (0 + y.toNat) default < 128 := by rw [Nat.zero_add]; exact ann_elem hA g0 (by omega)
        refine AWp.region ?_
        refine AOps.run hT true rfl ?_ ?_
        · repeat' (first | exact trivial | exact Bool.not_or_self _ | refine And.intro ?_ ?_ | (simp; done) | (simp_all; done) | (simp [inR_i64] at *; omega) | decide)
        refine AOps.callF (T := T) rfl rfl rfl rfl rfl ?_ (apart_fn d (l.getD x.toNat default) (l.getD (0 + y.toNat) default) hok hb1 hb2) (.inl ⟨by repeat' (first | exact trivial | refine And.intro ?_ ?_ | intro _), by repeat' (first | exact trivial | refine And.intro ?_ ?_ | intro _)⟩) rfl ?_
        · repeat' (first | exact trivial | exact Bool.not_or_self _ | refine And.intro ?_ ?_ | (simp; done) | (simp_all; done) | (simp [inR_i64] at *; omega) | decide)
        refine AOps.run hT true rfl ?_ ?_
        · repeat' (first | exact trivial | exact Bool.not_or_self _ | refine And.intro ?_ ?_ | (simp; done) | (simp_all; done) | (simp [inR_i64] at *; omega) | decide)
        refine AOps.nil ?_
        repeat (with_reducible first | refine thenNil ?_ | refine blockNil ?_)
        refine AWp.cond rfl ?_ (fun hc3 => ?_) (fun hc3 => ?_)
        · repeat' (first | exact trivial | exact Bool.not_or_self _ | refine And.intro ?_ ?_ | (simp; done) | (simp_all; done) | (simp [inR_i64] at *; omega) | decide)
        · try simp only [decide_eq_true_eq, decide_eq_false_iff_not] at hc3
          refine AWp.seq ?_
          refine AWp.region ?_
          refine AOps.run hT true rfl ?_ ?_
          · repeat' (first | exact trivial | exact Bool.not_or_self _ | refine And.intro ?_ ?_ | (simp; done) | (simp_all; done) | (simp [inR_i64] at *; omega) | decide)
          refine AOps.nil ?_
          repeat (with_reducible first | refine thenNil ?_ | refine blockNil ?_)
          refine AWp.ret ?_
          repeat (with_reducible first | refine thenRet ?_ | refine blockRet ?_)
          refine EndsIn.ret rfl ?_ ?_
          · repeat' (first | exact trivial | exact Bool.not_or_self _ | refine And.intro ?_ ?_ | (simp; done) | (simp_all; done) | (simp [inR_i64] at *; omega) | decide)
          refine ⟨[], ?_, rfl, rfl, rfl⟩
          rw [show tellsOk d l = false by unfold tellsOk; rw [allI_hit h0 hc1 (allI_hit g0 hc2 (by unfold qT; rw [Nat.zero_add] at hc3; exact nt hc3)), Bool.and_false]]; rfl
        · try simp only [decide_eq_true_eq, decide_eq_false_iff_not] at hc3
          refine AWp.skip ?_
          repeat (with_reducible first | refine thenNil ?_ | refine blockNil ?_)
          refine AWp.region ?_
          refine AOps.run hT true rfl ?_ ?_
          · repeat' (first | exact trivial | exact Bool.not_or_self _ | refine And.intro ?_ ?_ | (simp; done) | (simp_all; done) | (simp [inR_i64] at *; omega) | decide)
          refine AOps.nil ?_
          repeat (with_reducible first | refine thenNil ?_ | refine blockNil ?_)
          refine Exists.intro (y + 1) (And.intro (And.intro ?_ ?_) ?_)
          · simp at *; omega
          · exact ⟨by omega, by omega, allI_next g0 g2 (by unfold qT; rw [Nat.zero_add] at hc3; exact nb hc3)⟩
          · refine ⟨?_, ?_, rfl, rfl, fun k hk => Nat.lt_of_lt_of_le (hfx k hk) (Nat.le_of_ble_eq_true rfl)⟩
            · repeat' (first | exact Sub.nil | exact rfl | refine Sub.cons ?_ ?_)
            · repeat' (first | exact HTr.nil | exact objEq_refl _ | exact objEq_app1 | exact objEq_nil | exact objEq_mapP | exact objEq_mapI |  exact objEq_set (by first | omega | (simp; omega)) | exact objEq_appS (by simp) (appF_S rfl (fun _ _ => rfl)) | refine HTr.cons ?_ ?_ | refine HTr.dead rfl ?_)
      · try simp only [decide_eq_true_eq, decide_eq_false_iff_not] at hc2
        refine AWp.exit ?_
        repeat (with_reducible first | refine thenExit ?_ | refine blockSame ?_ | refine blockOther rfl ?_ | refine thenNil ?_ | refine blockNil ?_)
        refine AWp.region ?_
        refine AOps.run hT true rfl ?_ ?_
        · repeat' (first | exact trivial | exact Bool.not_or_self _ | refine And.intro ?_ ?_ | (simp; done) | (simp_all; done) | (simp [inR_i64] at *; omega) | decide)
        refine AOps.nil ?_
        repeat (with_reducible first | refine thenNil ?_ | refine blockNil ?_)
        refine Exists.intro (x + 1) (And.intro (And.intro ?_ ?_) ?_)
        · simp at *; omega
        · exact ⟨by omega, by omega, allI_next h0 h2 (allI_end hc2 g1 g2)⟩
        · refine ⟨?_, ?_, rfl, rfl, fun k hk => Nat.lt_of_lt_of_le (hfx k hk) (Nat.le_of_ble_eq_true rfl)⟩
          · repeat' (first | exact Sub.nil | exact rfl | refine Sub.cons ?_ ?_)
          · repeat' (first | exact HTr.nil | exact objEq_refl _ | exact objEq_app1 | exact objEq_nil | exact objEq_mapP | exact objEq_mapI |  exact objEq_set (by first | omega | (simp; omega)) | exact objEq_appS (by simp) (appF_S rfl (fun _ _ => rfl)) | refine HTr.cons ?_ ?_ | refine HTr.dead rfl ?_)
    · try simp only [decide_eq_true_eq, decide_eq_false_iff_not] at hc1
      refine AWp.exit ?_
      repeat (with_reducible first | refine thenExit ?_ | refine blockSame ?_ | refine blockOther rfl ?_ | refine thenNil ?_ | refine blockNil ?_)
      refine AWp.seq ?_
      refine AWp.region ?_
      refine AOps.run hT true rfl ?_ ?_
      · repeat' (first | exact trivial | exact Bool.not_or_self _ | refine And.intro ?_ ?_ | (simp; done) | (simp_all; done) | (simp [inR_i64] at *; omega) | decide)
      refine AOps.nil ?_
      repeat (with_reducible first | refine thenNil ?_ | refine blockNil ?_)
      refine AWp.ret ?_
      repeat (with_reducible first | refine thenRet ?_ | refine blockRet ?_)
      refine EndsIn.ret rfl ?_ ?_
      · repeat' (first | exact trivial | exact Bool.not_or_self _ | refine And.intro ?_ ?_ | (simp; done) | (simp_all; done) | (simp [inR_i64] at *; omega) | decide)
      refine ⟨[], ?_, rfl, rfl, rfl⟩
      rw [show tellsOk d l = true by unfold tellsOk; rw [hA, allI_end hc1 h1 h2]; rfl]; rfl

set_option maxRecDepth 20000 in
theorem law23 (d : Int × Int × Int) (l : List Int) (hd : i64 d.1 ∧ i64 d.2.1 ∧ i64 d.2.2) (hm : l.length ≤ maxLen) : AFn P 23 [cdeal d, lI l] (.i (cb true)) [] := by
  refine AFn.of_body Tok 30 Go.Proofs.Try.func23 rfl rfl rfl (by simp) rfl ?_
  rintro ⟨_, _, w0, I0, O0, X0, fx⟩ rfl rfl hT hfx
  refine AWp.seq ?_
  refine AWp.region ?_
  refine AOps.run hT true rfl ?_ ?_
  · repeat' (first | exact trivial | exact Bool.not_or_self _ | refine And.intro ?_ ?_ | (simp; done) | (simp_all; done) | (simp [inR_i64] at *; omega) | decide)
  refine AOps.nil ?_
  repeat (with_reducible first | refine thenNil ?_ | refine blockNil ?_)
  refine AWp.seq ?_
  refine AWp.seq ?_
  refine AWp.region ?_
  refine AOps.run hT true rfl ?_ ?_
  · repeat' (first | exact trivial | exact Bool.not_or_self _ | refine And.intro ?_ ?_ | (simp; done) | (simp_all; done) | (simp [inR_i64] at *; omega) | decide)
  refine AOps.nil ?_
  repeat (with_reducible first | refine thenNil ?_ | refine blockNil ?_)
  refine AWp.cond rfl ?_ (fun hc0 => ?_) (fun hc0 => ?_)
  · repeat' (first | exact trivial | exact Bool.not_or_self _ | refine And.intro ?_ ?_ | (simp; done) | (simp_all; done) | (simp [inR_i64] at *; omega) | decide)
  · try simp only [decide_eq_true_eq, decide_eq_false_iff_not] at hc0
    refine AWp.seq ?_
    skip
    refine AWp.region ?_
    refine AOps.run hT true rfl ?_ ?_
    · repeat' (first | exact trivial | exact Bool.not_or_self _ | refine And.intro ?_ ?_ | (simp; done) | (simp_all; done) | (simp [inR_i64] at *; omega) | decide)
    refine AOps.nil ?_
    repeat (with_reducible first | refine thenNil ?_ | refine blockNil ?_)
    refine AWp.ret ?_
    repeat (with_reducible first | refine thenRet ?_ | refine blockRet ?_)
    refine EndsIn.ret rfl ?_ ?_
    · repeat' (first | exact trivial | exact Bool.not_or_self _ | refine And.intro ?_ ?_ | (simp; done) | (simp_all; done) | (simp [inR_i64] at *; omega) | decide)
    refine ⟨[], ?_, rfl, rfl, rfl⟩
    rfl
  · try simp only [decide_eq_true_eq, decide_eq_false_iff_not] at hc0
    refine AWp.skip ?_
    repeat (with_reducible first | refine thenNil ?_ | refine blockNil ?_)
    refine AWp.seq ?_
    have hl : l.length ≤ 1048576 := by omega
    refine AWp.region ?_
    refine AOps.run hT true rfl ?_ ?_
    · repeat' (first | exact trivial | exact Bool.not_or_self _ | refine And.intro ?_ ?_ | (simp; done) | (simp_all; done) | (simp [inR_i64] at *; omega) | decide)
    refine AOps.callF (T := T) rfl rfl rfl rfl rfl ?_ (toDeal_fn d) (.inl ⟨by repeat' (first | exact trivial | refine And.intro ?_ ?_ | intro _), by repeat' (first | exact trivial | refine And.intro ?_ ?_ | intro _)⟩) rfl ?_
    · repeat' (first | exact trivial | exact Bool.not_or_self _ | refine And.intro ?_ ?_ | (simp; done) | (simp_all; done) | (simp [inR_i64] at *; omega) | decide)
    refine AOps.run hT true rfl ?_ ?_
    · repeat' (first | exact trivial | exact Bool.not_or_self _ | refine And.intro ?_ ?_ | (simp; done) | (simp_all; done) | (simp [inR_i64] at *; omega) | decide)
    refine AOps.callF (T := T) rfl rfl rfl rfl rfl ?_ (toIntS_fn l hl) (.inl ⟨by repeat' (first | exact trivial | refine And.intro ?_ ?_ | intro _), by repeat' (first | exact trivial | refine And.intro ?_ ?_ | intro _)⟩) rfl ?_
    · repeat' (first | exact trivial | exact Bool.not_or_self _ | refine And.intro ?_ ?_ | (simp; done) | (simp_all; done) | (simp [inR_i64] at *; omega) | decide)
    refine AOps.callF (T := T) rfl rfl rfl rfl rfl ?_ (sTells_fn d l hd hl) (.inl ⟨by repeat' (first | exact trivial | refine And.intro ?_ ?_ | intro _), by repeat' (first | exact trivial | refine And.intro ?_ ?_ | intro _)⟩) rfl ?_
    · repeat' (first | exact trivial | exact Bool.not_or_self _ | refine And.intro ?_ ?_ | (simp; done) | (simp_all; done) | (simp [inR_i64] at *; omega) | decide)
    refine AOps.run hT true rfl ?_ ?_
    · repeat' (first | exact trivial | exact Bool.not_or_self _ | refine And.intro ?_ ?_ | (simp; done) | (simp_all; done) | (simp [inR_i64] at *; omega) | decide)
    refine AOps.nil ?_
    repeat (with_reducible first | refine thenNil ?_ | refine blockNil ?_)
    refine AWp.seq ?_
    refine AWp.region ?_
    refine AOps.run hT true rfl ?_ ?_
    · repeat' (first | exact trivial | exact Bool.not_or_self _ | refine And.intro ?_ ?_ | (simp; done) | (simp_all; done) | (simp [inR_i64] at *; omega) | decide)
    refine AOps.callF (T := T) rfl rfl rfl rfl rfl ?_ (toIntS_fn l hl) (.inl ⟨by repeat' (first | exact trivial | refine And.intro ?_ ?_ | intro _), by repeat' (first | exact trivial | refine And.intro ?_ ?_ | intro _)⟩) rfl ?_
    · repeat' (first | exact trivial | exact Bool.not_or_self _ | refine And.intro ?_ ?_ | (simp; done) | (simp_all; done) | (simp [inR_i64] at *; omega) | decide)
    refine AOps.run hT true rfl ?_ ?_
    · repeat' (first | exact trivial | exact Bool.not_or_self _ | refine And.intro ?_ ?_ | (simp; done) | (simp_all; done) | (simp [inR_i64] at *; omega) | decide)
    refine AOps.nil ?_
    repeat (with_reducible first | refine thenNil ?_ | refine blockNil ?_)
    refine AWp.seq ?_
    refine AWp.region ?_
    refine AOps.run hT true rfl ?_ ?_
    · repeat' (first | exact trivial | exact Bool.not_or_self _ | refine And.intro ?_ ?_ | (simp; done) | (simp_all; done) | (simp [inR_i64] at *; omega) | decide)
    refine AOps.callF (T := T) rfl rfl rfl rfl rfl ?_ (toDeal_fn d) (.inl ⟨by repeat' (first | exact trivial | refine And.intro ?_ ?_ | intro _), by repeat' (first | exact trivial | refine And.intro ?_ ?_ | intro _)⟩) rfl ?_
    · repeat' (first | exact trivial | exact Bool.not_or_self _ | refine And.intro ?_ ?_ | (simp; done) | (simp_all; done) | (simp [inR_i64] at *; omega) | decide)
    refine AOps.run hT true rfl ?_ ?_
    · repeat' (first | exact trivial | exact Bool.not_or_self _ | refine And.intro ?_ ?_ | (simp; done) | (simp_all; done) | (simp [inR_i64] at *; omega) | decide)
    refine AOps.callF (T := T) rfl rfl rfl rfl rfl ?_ (Tells_fn d l hd hl) (.inl ⟨by repeat' (first | exact trivial | refine And.intro ?_ ?_ | intro _), by repeat' (first | exact trivial | refine And.intro ?_ ?_ | intro _)⟩) rfl ?_
    · repeat' (first | exact trivial | exact Bool.not_or_self _ | refine And.intro ?_ ?_ | (simp; done) | (simp_all; done) | (simp [inR_i64] at *; omega) | decide)
    refine AOps.run hT true rfl ?_ ?_
    · repeat' (first | exact trivial | exact Bool.not_or_self _ | refine And.intro ?_ ?_ | (simp; done) | (simp_all; done) | (simp [inR_i64] at *; omega) | decide)
    refine AOps.nil ?_
    repeat (with_reducible first | refine thenNil ?_ | refine blockNil ?_)
    refine AWp.seq ?_
    refine AWp.seq ?_
    refine AWp.region ?_
    refine AOps.run hT true rfl ?_ ?_
    · repeat' (first | exact trivial | exact Bool.not_or_self _ | refine And.intro ?_ ?_ | (simp; done) | (simp_all; done) | (simp [inR_i64] at *; omega) | decide)
    refine AOps.nil ?_
    repeat (with_reducible first | refine thenNil ?_ | refine blockNil ?_)
    refine AWp.cond rfl ?_ (fun hc1 => ?_) (fun hc1 => ?_)
    · repeat' (first | exact trivial | exact Bool.not_or_self _ | refine And.intro ?_ ?_ | (simp; done) | (simp_all; done) | (simp [inR_i64] at *; omega) | decide)
    · simp at hc1
    · try simp only [decide_eq_true_eq, decide_eq_false_iff_not] at hc1
      refine AWp.skip ?_
      repeat (with_reducible first | refine thenNil ?_ | refine blockNil ?_)
      refine AWp.seq ?_
      refine AWp.seq ?_
      refine AWp.region ?_
      refine AOps.run hT true rfl ?_ ?_
      · repeat' (first | exact trivial | exact Bool.not_or_self _ | refine And.intro ?_ ?_ | (simp; done) | (simp_all; done) | (simp [inR_i64] at *; omega) | decide)
      refine AOps.callF (T := T) rfl rfl rfl rfl rfl ?_ (toIntS_fn l hl) (.inl ⟨by repeat' (first | exact trivial | refine And.intro ?_ ?_ | intro _), by repeat' (first | exact trivial | refine And.intro ?_ ?_ | intro _)⟩) rfl ?_
      · repeat' (first | exact trivial | exact Bool.not_or_self _ | refine And.intro ?_ ?_ | (simp; done) | (simp_all; done) | (simp [inR_i64] at *; omega) | decide)
      refine AOps.callF (T := T) rfl rfl rfl rfl rfl ?_ (eqIntS_fn l hl) (.inl ⟨by repeat' (first | exact trivial | refine And.intro ?_ ?_ | intro _), by repeat' (first | exact trivial | refine And.intro ?_ ?_ | intro _)⟩) rfl ?_
      · repeat' (first | exact trivial | exact Bool.not_or_self _ | refine And.intro ?_ ?_ | (simp; done) | (simp_all; done) | (simp [inR_i64] at *; omega) | decide)
      refine AOps.run hT true rfl ?_ ?_
      · repeat' (first | exact trivial | exact Bool.not_or_self _ | refine And.intro ?_ ?_ | (simp; done) | (simp_all; done) | (simp [inR_i64] at *; omega) | decide)
      refine AOps.nil ?_
      repeat (with_reducible first | refine thenNil ?_ | refine blockNil ?_)
      refine AWp.cond rfl ?_ (fun hc2 => ?_) (fun hc2 => ?_)
      · repeat' (first | exact trivial | exact Bool.not_or_self _ | refine And.intro ?_ ?_ | (simp; done) | (simp_all; done) | (simp [inR_i64] at *; omega) | decide)
      · simp at hc2
      · try simp only [decide_eq_true_eq, decide_eq_false_iff_not] at hc2
        refine AWp.skip ?_
        repeat (with_reducible first | refine thenNil ?_ | refine blockNil ?_)
        refine AWp.seq ?_
        refine AWp.region ?_
        refine AOps.run hT true rfl ?_ ?_
        · repeat' (first | exact trivial | exact Bool.not_or_self _ | refine And.intro ?_ ?_ | (simp; done) | (simp_all; done) | (simp [inR_i64] at *; omega) | decide)
        refine AOps.nil ?_
        repeat (with_reducible first | refine thenNil ?_ | refine blockNil ?_)
        refine AWp.ret ?_
        repeat (with_reducible first | refine thenRet ?_ | refine blockRet ?_)
        refine EndsIn.ret rfl ?_ ?_
        · repeat' (first | exact trivial | exact Bool.not_or_self _ | refine And.intro ?_ ?_ | (simp; done) | (simp_all; done) | (simp [inR_i64] at *; omega) | decide)
        refine ⟨[], ?_, rfl, rfl, rfl⟩
        rfl

set_option maxRecDepth 20000 in
theorem hidden_fn (l : List Int) (all t : Int) (hl : l.length ≤ 1048576) : AFn P 109 [lI l, ci all, ci t] (.i (cb (hiddenOk l all t))) [] := by
  refine AFn.of_body Tok 43 Go.Proofs.Try.func109 rfl rfl rfl (by simp) rfl ?_
  rintro ⟨_, _, w0, I0, O0, X0, fx⟩ rfl rfl hT hfx
  refine AWp.seq ?_
  refine AWp.region ?_
  refine AOps.run hT true rfl ?_ ?_
  · repeat' (first | exact trivial | exact Bool.not_or_self _ | refine And.intro ?_ ?_ | (simp; done) | (simp_all; done) | (simp [inR_i64] at *; omega) | decide)
  refine AOps.nil ?_
  repeat (with_reducible first | refine thenNil ?_ | refine blockNil ?_)
  refine AWp.seq ?_
  refine AWp.region ?_
  refine AOps.run hT true rfl ?_ ?_
  · repeat' (first | exact trivial | exact Bool.not_or_self _ | refine And.intro ?_ ?_ | (simp; done) | (simp_all; done) | (simp [inR_i64] at *; omega) | decide)
  refine AOps.nil ?_
  repeat (with_reducible first | refine thenNil ?_ | refine blockNil ?_)
  refine AWp.seq ?_
  refine AWp.region ?_
  refine AOps.run hT true rfl ?_ ?_
  · repeat' (first | exact trivial | exact Bool.not_or_self _ | refine And.intro ?_ ?_ | (simp; done) | (simp_all; done) | (simp [inR_i64] at *; omega) | decide)
  refine AOps.nil ?_
  repeat (with_reducible first | refine thenNil ?_ | refine blockNil ?_)
  refine AWp.seq ?_
  refine AWp.region ?_
  refine AOps.run hT true rfl ?_ ?_
  · repeat' (first | exact trivial | exact Bool.not_or_self _ | refine And.intro ?_ ?_ | (simp; done) | (simp_all; done) | (simp [inR_i64] at *; omega) | decide)
  refine AOps.nil ?_
  repeat (with_reducible first | refine thenNil ?_ | refine blockNil ?_)
  refine AWp.seq ?_
  refine AWp.seq ?_
  refine AWp.region ?_
  refine AOps.run hT true rfl ?_ ?_
  · repeat' (first | exact trivial | exact Bool.not_or_self _ | refine And.intro ?_ ?_ | (simp; done) | (simp_all; done) | (simp [inR_i64] at *; omega) | decide)
  refine AOps.nil ?_
  repeat (with_reducible first | refine thenNil ?_ | refine blockNil ?_)
  refine AWp.block ?_
  refine AWp.loopS (σ := Int × Int × Int × Bool) (fun (y, _) => (l.length - y).toNat) (fun (y, c, s, m) => [(1, .i (ci all)), (2, .i (ci t)), (7, .i (ci c)), (8, .i (ci s)), (9, .i (cb m)), (13, .i (lI l)), (14, .i (ci l.length)), (15, .i (ci y))]) (fun _ => []) (fun (y, c, s, m) => 0 ≤ y ∧ y ≤ l.length ∧ hidSt (l.take y.toNat) all t = (c, s, m)) ((0, all, 0, false)) ?_ ?_ ?_
  · refine ⟨?_, ?_, rfl, rfl, fun k hk => Nat.lt_of_lt_of_le (hfx k hk) (Nat.le_of_ble_eq_true rfl)⟩
    · repeat' (first | exact Sub.nil | exact rfl | refine Sub.cons ?_ ?_)
    · repeat' (first | exact HTr.nil | exact objEq_refl _ | exact objEq_app1 | exact objEq_nil | exact objEq_mapP | exact objEq_mapI |  exact objEq_set (by first | omega | (simp; omega)) | exact objEq_appS (by simp) (appF_S rfl (fun _ _ => rfl)) | refine HTr.cons ?_ ?_ | refine HTr.dead rfl ?_)
  · exact ⟨by omega, by omega, rfl⟩
  rintro ⟨y, c, s, m⟩ ⟨g0, g1, g2⟩
  refine AWp.seq ?_
  refine AWp.region ?_
  refine AOps.run hT true rfl ?_ ?_
  · repeat' (first | exact trivial | exact Bool.not_or_self _ | refine And.intro ?_ ?_ | (simp; done) | (simp_all; done) | (simp [inR_i64] at *; omega) | decide)
  refine AOps.nil ?_
  repeat (with_reducible first | refine thenNil ?_ | refine blockNil ?_)
  refine AWp.seq ?_
  refine AWp.cond rfl ?_ (fun hc0 => ?_) (fun hc0 => ?_)
  · repeat' (first | exact trivial | exact Bool.not_or_self _ | refine And.intro ?_ ?_ | (simp; done) | (simp_all; done) | (simp [inR_i64] at *; omega) | decide)
  · try simp only [decide_eq_true_eq, decide_eq_false_iff_not] at hc0
    refine AWp.skip ?_
    repeat (with_reducible first | refine thenNil ?_ | refine blockNil ?_)
    refine AWp.seq ?_
    refine AWp.block ?_
    refine AWp.seq ?_
    refine AWp.region ?_
    refine AOps.run hT true rfl ?_ ?_
    · repeat' (first | exact trivial | exact Bool.not_or_self _ | refine And.intro ?_ ?_ | (simp; done) | (simp_all; done) | (simp [inR_i64] at *; omega) | decide)
    refine AOps.nil ?_
    repeat (with_reducible first | refine thenNil ?_ | refine blockNil ?_)
    refine AWp.seq ?_
    refine AWp.region ?_
    refine AOps.run hT true rfl ?_ ?_
    · repeat' (first | exact trivial | exact Bool.not_or_self _ | refine And.intro ?_ ?_ | (simp; done) | (simp_all; done) | (simp [inR_i64] at *; omega) | decide)
    refine AOps.nil ?_
    repeat (with_reducible first | refine thenNil ?_ | refine blockNil ?_)
    refine AWp.cond rfl ?_ (fun hc1 => ?_) (fun hc1 => ?_)
    · repeat' (first | exact trivial | exact Bool.not_or_self _ | refine And.intro ?_ ?_ | (simp; done) | (simp_all; done) | (simp [inR_i64] at *; omega) | decide)
    · try simp only [decide_eq_true_eq, decide_eq_false_iff_not] at hc1
      refine AWp.seq ?_
      refine AWp.region ?_
      refine AOps.run hT true rfl ?_ ?_
      · repeat' (first | exact trivial | exact Bool.not_or_self _ | refine And.intro ?_ ?_ | (simp; done) | (simp_all; done) | (simp [inR_i64] at *; omega) | decide)
      refine AOps.nil ?_
      repeat (with_reducible first | refine thenNil ?_ | refine blockNil ?_)
      refine AWp.seq ?_
      refine AWp.region ?_
      refine AOps.run hT true rfl ?_ ?_
      · repeat' (first | exact trivial | exact Bool.not_or_self _ | refine And.intro ?_ ?_ | (simp; done) | (simp_all; done) | (simp [inR_i64] at *; omega) | decide)
      refine AOps.nil ?_
      repeat (with_reducible first | refine thenNil ?_ | refine blockNil ?_)
      refine AWp.region ?_
      refine AOps.run hT true rfl ?_ ?_
      · repeat' (first | exact trivial | exact Bool.not_or_self _ | refine And.intro ?_ ?_ | (simp; done) | (simp_all; done) | (simp [inR_i64] at *; omega) | decide)
      refine AOps.nil ?_
      repeat (with_reducible first | refine thenNil ?_ | refine blockNil ?_)
      refine AWp.region ?_
      refine AOps.run hT true rfl ?_ ?_
      · repeat' (first | exact trivial | exact Bool.not_or_self _ | refine And.intro ?_ ?_ | (simp; done) | (simp_all; done) | (simp [inR_i64] at *; omega) | decide)
      refine AOps.nil ?_
      repeat (with_reducible first | refine thenNil ?_ | refine blockNil ?_)
      refine Exists.intro ((y + 1, bitI .and .i64 c (l.getD y.toNat default), bitI .or .i64 s (l.getD y.toNat default), true)) (And.intro (And.intro ?_ ?_) ?_)
      · simp at *; omega
      · exact ⟨by omega, by omega, by rw [hid_succ g0 hc0, g2, hidStep, if_pos hc1]⟩
      · refine ⟨?_, ?_, rfl, rfl, fun k hk => Nat.lt_of_lt_of_le (hfx k hk) (Nat.le_of_ble_eq_true rfl)⟩
        · repeat' (first | exact Sub.nil | exact rfl | refine Sub.cons ?_ ?_)
        · repeat' (first | exact HTr.nil | exact objEq_refl _ | exact objEq_app1 | exact objEq_nil | exact objEq_mapP | exact objEq_mapI |  exact objEq_set (by first | omega | (simp; omega)) | exact objEq_appS (by simp) (appF_S rfl (fun _ _ => rfl)) | refine HTr.cons ?_ ?_ | refine HTr.dead rfl ?_)
    · try simp only [decide_eq_true_eq, decide_eq_false_iff_not] at hc1
      refine AWp.skip ?_
      repeat (with_reducible first | refine thenNil ?_ | refine blockNil ?_)
      refine AWp.region ?_
      refine AOps.run hT true rfl ?_ ?_
      · repeat' (first | exact trivial | exact Bool.not_or_self _ | refine And.intro ?_ ?_ | (simp; done) | (simp_all; done) | (simp [inR_i64] at *; omega) | decide)
      refine AOps.nil ?_
      repeat (with_reducible first | refine thenNil ?_ | refine blockNil ?_)
      refine Exists.intro ((y + 1, c, s, m)) (And.intro (And.intro ?_ ?_) ?_)
      · simp at *; omega
      · exact ⟨by omega, by omega, by rw [hid_succ g0 hc0, g2, hidStep, if_neg (by rw [hc1]; simp)]⟩
      · refine ⟨?_, ?_, rfl, rfl, fun k hk => Nat.lt_of_lt_of_le (hfx k hk) (Nat.le_of_ble_eq_true rfl)⟩
        · repeat' (first | exact Sub.nil | exact rfl | refine Sub.cons ?_ ?_)
        · repeat' (first | exact HTr.nil | exact objEq_refl _ | exact objEq_app1 | exact objEq_nil | exact objEq_mapP | exact objEq_mapI |  exact objEq_set (by first | omega | (simp; omega)) | exact objEq_appS (by simp) (appF_S rfl (fun _ _ => rfl)) | refine HTr.cons ?_ ?_ | refine HTr.dead rfl ?_)
  · try simp only [decide_eq_true_eq, decide_eq_false_iff_not] at hc0
    refine AWp.exit ?_
    repeat (with_reducible first | refine thenExit ?_ | refine blockSame ?_ | refine blockOther rfl ?_ | refine thenNil ?_ | refine blockNil ?_)
    refine AWp.seq ?_
    refine AWp.region ?_
    refine AOps.run hT true rfl ?_ ?_
    · repeat' (first | exact trivial | exact Bool.not_or_self _ | refine And.intro ?_ ?_ | (simp; done) | (simp_all; done) | (simp [inR_i64] at *; omega) | decide)
    refine AOps.nil ?_
    repeat (with_reducible first | refine thenNil ?_ | refine blockNil ?_)
    refine AWp.ret ?_
    repeat (with_reducible first | refine thenRet ?_ | refine blockRet ?_)
    refine EndsIn.ret rfl ?_ ?_
    · repeat' (first | exact trivial | exact Bool.not_or_self _ | refine And.intro ?_ ?_ | (simp; done) | (simp_all; done) | (simp [inR_i64] at *; omega) | decide)
    refine ⟨[], ?_, rfl, rfl, rfl⟩
    rw [take_all hc0] at g2; rw [show hiddenOk l all t = (!m || (c == 0 && (bitI .or .i64 s t == all))) by unfold hiddenOk; rw [g2], ← hid_s]; rfl

set_option maxRecDepth 20000 in
theorem sHides_fn (d : Int × Int × Int) (l : List Int) (hd : i64 d.1 ∧ i64 d.2.1 ∧ i64 d.2.2) (hl : l.length ≤ 1048576) : AFn P 82 [cdeal d, lI l] (.i (cb (hidesOk d l))) [] := by
  refine AFn.of_body Tok 37 Go.Proofs.Try.func82 rfl rfl rfl (by simp) rfl ?_
  rintro ⟨_, _, w0, I0, O0, X0, fx⟩ rfl rfl hT hfx
  refine AWp.seq ?_
  refine AWp.region ?_
  refine AOps.run hT true rfl ?_ ?_
  · repeat' (first | exact trivial | exact Bool.not_or_self _ | refine And.intro ?_ ?_ | (simp; done) | (simp_all; done) | (simp [inR_i64] at *; omega) | decide)
  refine AOps.nil ?_
  repeat (with_reducible first | refine thenNil ?_ | refine blockNil ?_)
  refine AWp.seq ?_
  refine AWp.seq ?_
  refine AWp.region ?_
  refine AOps.run hT true rfl ?_ ?_
  · repeat' (first | exact trivial | exact Bool.not_or_self _ | refine And.intro ?_ ?_ | (simp; done) | (simp_all; done) | (simp [inR_i64] at *; omega) | decide)
  refine AOps.callF (T := T) rfl rfl rfl rfl rfl ?_ (sAnnOk_fn d l hd hl) (.inl ⟨by repeat' (first | exact trivial | refine And.intro ?_ ?_ | intro _), by repeat' (first | exact trivial | refine And.intro ?_ ?_ | intro _)⟩) rfl ?_
  · repeat' (first | exact trivial | exact Bool.not_or_self _ | refine And.intro ?_ ?_ | (simp; done) | (simp_all; done) | (simp [inR_i64] at *; omega) | decide)
  refine AOps.run hT true rfl ?_ ?_
  · repeat' (first | exact trivial | exact Bool.not_or_self _ | refine And.intro ?_ ?_ | (simp; done) | (simp_all; done) | (simp [inR_i64] at *; omega) | decide)
  refine AOps.nil ?_
  repeat (with_reducible first | refine thenNil ?_ | refine blockNil ?_)
  refine AWp.cond rfl ?_ (fun hc0 => ?_) (fun hc0 => ?_)
  · repeat' (first | exact trivial | exact Bool.not_or_self _ | refine And.intro ?_ ?_ | (simp; done) | (simp_all; done) | (simp [inR_i64] at *; omega) | decide)
  · try simp only [decide_eq_true_eq, decide_eq_false_iff_not] at hc0
    refine AWp.seq ?_
    refine AWp.region ?_
    refine AOps.run hT true rfl ?_ ?_
    · repeat' (first | exact trivial | exact Bool.not_or_self _ | refine And.intro ?_ ?_ | (simp; done) | (simp_all; done) | (simp [inR_i64] at *; omega) | decide)
    refine AOps.nil ?_
    repeat (with_reducible first | refine thenNil ?_ | refine blockNil ?_)
    refine AWp.ret ?_
    repeat (with_reducible first | refine thenRet ?_ | refine blockRet ?_)
    refine EndsIn.ret rfl ?_ ?_
    · repeat' (first | exact trivial | exact Bool.not_or_self _ | refine And.intro ?_ ?_ | (simp; done) | (simp_all; done) | (simp [inR_i64] at *; omega) | decide)
    refine ⟨[], ?_, rfl, rfl, rfl⟩
    rw [show hidesOk d l = false by unfold hidesOk; rw [show annOk d l = false by simpa using hc0]; rfl]; rfl
  · try simp only [decide_eq_true_eq, decide_eq_false_iff_not] at hc0
    refine AWp.skip ?_
    repeat (with_reducible first | refine thenNil ?_ | refine blockNil ?_)
    refine AWp.seq ?_
    have hA : annOk d l = true := nb hc0
    obtain ⟨hok, _⟩ := ann_split hA
    obtain ⟨hd1, hd2, hd3, hd4⟩ := deal_cards hok
    have hN := shl_range (cards := d.1 + d.2.1 + d.2.2) (by omega) (by omega)
    have hlen : (hidesL d).length ≤ 1048576 := handsL_len (by omega) (by omega)
    refine AWp.region ?_
    refine AOps.run hT true rfl ?_ ?_
    · repeat' (first | exact trivial | exact Bool.not_or_self _ | refine And.intro ?_ ?_ | (simp; done) | (simp_all; done) | (simp [inR_i64] at *; omega) | decide)
    refine AOps.nil ?_
    repeat (with_reducible first | refine thenNil ?_ | refine blockNil ?_)
    refine AWp.seq ?_
    refine AWp.seq ?_
    refine AWp.region ?_
    refine AOps.run hT true rfl ?_ ?_
    · repeat' (first | exact trivial | exact Bool.not_or_self _ | refine And.intro ?_ ?_ | (simp; done) | (simp_all; done) | (simp [inR_i64] at *; omega) | decide)
    refine AOps.callF (T := T) rfl rfl rfl rfl rfl ?_ (sHands_fn (d.1 + d.2.1 + d.2.2) d.2.2 (by omega) (by omega) hd.2.2) (.inl ⟨by repeat' (first | exact trivial | refine And.intro ?_ ?_ | intro _), by repeat' (first | exact trivial | refine And.intro ?_ ?_ | intro _)⟩) rfl ?_
    · repeat' (first | exact trivial | exact Bool.not_or_self _ | refine And.intro ?_ ?_ | (simp; done) | (simp_all; done) | (simp [inR_i64] at *; omega) | decide)
    refine AOps.run hT true rfl ?_ ?_
    · repeat' (first | exact trivial | exact Bool.not_or_self _ | refine And.intro ?_ ?_ | (simp; done) | (simp_all; done) | (simp [inR_i64] at *; omega) | decide)
    refine AOps.nil ?_
    repeat (with_reducible first | refine thenNil ?_ | refine blockNil ?_)
    refine AWp.block ?_
    refine AWp.loopS (σ := Int) (fun x => ((hidesL d).length - x).toNat) (fun x => [(1, .i (lI l)), (5, .i (ci (d.1 + d.2.1 + d.2.2))), (23, .osl 1 none), (24, .i (ci (hidesL d).length)), (25, .i (ci x))]) (fun _ => [bD d, oI (hidesL d)]) (fun x => 0 ≤ x ∧ x ≤ (hidesL d).length ∧ allI x.toNat (fun x => hiddenOk l (shlI .i64 1 (d.1 + d.2.1 + d.2.2) - 1) ((hidesL d).getD x.toNat default)) = true) (0) ?_ ?_ ?_
    · refine ⟨?_, ?_, rfl, rfl, fun k hk => Nat.lt_of_lt_of_le (hfx k hk) (Nat.le_of_ble_eq_true rfl)⟩
      · repeat' (first | exact Sub.nil | exact rfl | refine Sub.cons ?_ ?_)
      · repeat' (first | exact HTr.nil | exact objEq_refl _ | exact objEq_app1 | exact objEq_nil | exact objEq_mapP | exact objEq_mapI |  exact objEq_set (by first | omega | (simp; omega)) | exact objEq_appS (by simp) (appF_S rfl (fun _ _ => rfl)) | refine HTr.cons ?_ ?_ | refine HTr.dead rfl ?_)
    · exact ⟨by omega, by omega, rfl⟩
    rintro x ⟨h0, h1, h2⟩
    refine AWp.seq ?_
    refine AWp.region ?_
    refine AOps.run hT true rfl ?_ ?_
    · repeat' (first | exact trivial | exact Bool.not_or_self _ | refine And.intro ?_ ?_ | (simp; done) | (simp_all; done) | (simp [inR_i64] at *; omega) | decide)
    refine AOps.nil ?_
    repeat (with_reducible first | refine thenNil ?_ | refine blockNil ?_)
    refine AWp.seq ?_
    refine AWp.cond rfl ?_ (fun hc1 => ?_) (fun hc1 => ?_)
    · repeat' (first | exact trivial | exact Bool.not_or_self _ | refine And.intro ?_ ?_ | (simp; done) | (simp_all; done) | (simp [inR_i64] at *; omega) | decide)
    · try simp only [decide_eq_true_eq, decide_eq_false_iff_not] at hc1
      refine AWp.skip ?_
      repeat (with_reducible first | refine thenNil ?_ | refine blockNil ?_)
      refine AWp.seq ?_
      refine AWp.block ?_
      refine AWp.seq ?_
      refine AWp.region ?_
      refine AOps.run hT true rfl ?_ ?_
      · repeat' (first | exact trivial | exact Bool.not_or_self _ | refine And.intro ?_ ?_ | (simp; done) | (simp_all; done) | (simp [inR_i64] at *; omega) | decide)
      refine AOps.nil ?_
      repeat (with_reducible first | refine thenNil ?_ | refine blockNil ?_)
      refine AWp.seq ?_
      refine AWp.region ?_
      refine AOps.run hT true rfl ?_ ?_
      · repeat' (first | exact trivial | exact Bool.not_or_self _ | refine And.intro ?_ ?_ | (simp; done) | (simp_all; done) | (simp [inR_i64] at *; omega) | decide)
      refine AOps.callF (T := T) rfl rfl rfl rfl rfl ?_ (hidden_fn l (shlI .i64 1 (d.1 + d.2.1 + d.2.2) - 1) ((hidesL d).getD x.toNat default) hl) (.inl ⟨by repeat' (first | exact trivial | refine And.intro ?_ ?_ | intro _), by repeat' (first | exact trivial | refine And.intro ?_ ?_ | intro _)⟩) rfl ?_
      · repeat' (first | exact trivial | exact Bool.not_or_self _ | refine And.intro ?_ ?_ | (simp; done) | (simp_all; done) | (simp [inR_i64] at *; omega) | decide)
      refine AOps.run hT true rfl ?_ ?_
      · repeat' (first | exact trivial | exact Bool.not_or_self _ | refine And.intro ?_ ?_ | (simp; done) | (simp_all; done) | (simp [inR_i64] at *; omega) | decide)
      refine AOps.nil ?_
      repeat (with_reducible first | refine thenNil ?_ | refine blockNil ?_)
      refine AWp.cond rfl ?_ (fun hc2 => ?_) (fun hc2 => ?_)
      · repeat' (first | exact trivial | exact Bool.not_or_self _ | refine And.intro ?_ ?_ | (simp; done) | (simp_all; done) | (simp [inR_i64] at *; omega) | decide)
      · try simp only [decide_eq_true_eq, decide_eq_false_iff_not] at hc2
        refine AWp.seq ?_
        refine AWp.region ?_
        refine AOps.run hT true rfl ?_ ?_
        · repeat' (first | exact trivial | exact Bool.not_or_self _ | refine And.intro ?_ ?_ | (simp; done) | (simp_all; done) | (simp [inR_i64] at *; omega) | decide)
        refine AOps.nil ?_
        repeat (with_reducible first | refine thenNil ?_ | refine blockNil ?_)
        refine AWp.ret ?_
        repeat (with_reducible first | refine thenRet ?_ | refine blockRet ?_)
        refine EndsIn.ret rfl ?_ ?_
        · repeat' (first | exact trivial | exact Bool.not_or_self _ | refine And.intro ?_ ?_ | (simp; done) | (simp_all; done) | (simp [inR_i64] at *; omega) | decide)
        refine ⟨[], ?_, rfl, rfl, rfl⟩
        rw [show hidesOk d l = false by unfold hidesOk; rw [allI_hit h0 hc1 (nt hc2), Bool.and_false]]; rfl
      · try simp only [decide_eq_true_eq, decide_eq_false_iff_not] at hc2
        refine AWp.skip ?_
        repeat (with_reducible first | refine thenNil ?_ | refine blockNil ?_)
        refine AWp.region ?_
        refine AOps.run hT true rfl ?_ ?_
        · repeat' (first | exact trivial | exact Bool.not_or_self _ | refine And.intro ?_ ?_ | (simp; done) | (simp_all; done) | (simp [inR_i64] at *; omega) | decide)
        refine AOps.nil ?_
        repeat (with_reducible first | refine thenNil ?_ | refine blockNil ?_)
        refine Exists.intro (x + 1) (And.intro (And.intro ?_ ?_) ?_)
        · simp at *; omega
        · exact ⟨by omega, by omega, allI_next h0 h2 (nb hc2)⟩
        · refine ⟨?_, ?_, rfl, rfl, fun k hk => Nat.lt_of_lt_of_le (hfx k hk) (Nat.le_of_ble_eq_true rfl)⟩
          · repeat' (first | exact Sub.nil | exact rfl | refine Sub.cons ?_ ?_)
          · repeat' (first | exact HTr.nil | exact objEq_refl _ | exact objEq_app1 | exact objEq_nil | exact objEq_mapP | exact objEq_mapI |  exact objEq_set (by first | omega | (simp; omega)) | exact objEq_appS (by simp) (appF_S rfl (fun _ _ => rfl)) | refine HTr.cons ?_ ?_ | refine HTr.dead rfl ?_)
    · try simp only [decide_eq_true_eq, decide_eq_false_iff_not] at hc1
      refine AWp.exit ?_
      repeat (with_reducible first | refine thenExit ?_ | refine blockSame ?_ | refine blockOther rfl ?_ | refine thenNil ?_ | refine blockNil ?_)
      refine AWp.seq ?_
      refine AWp.region ?_
      refine AOps.run hT true rfl ?_ ?_
      · repeat' (first | exact trivial | exact Bool.not_or_self _ | refine And.intro ?_ ?_ | (simp; done) | (simp_all; done) | (simp [inR_i64] at *; omega) | decide)
      refine AOps.nil ?_
      repeat (with_reducible first | refine thenNil ?_ | refine blockNil ?_)
      refine AWp.ret ?_
      repeat (with_reducible first | refine thenRet ?_ | refine blockRet ?_)
      refine EndsIn.ret rfl ?_ ?_
      · repeat' (first | exact trivial | exact Bool.not_or_self _ | refine And.intro ?_ ?_ | (simp; done) | (simp_all; done) | (simp [inR_i64] at *; omega) | decide)
      refine ⟨[], ?_, rfl, rfl, rfl⟩
      rw [show hidesOk d l = true by unfold hidesOk; rw [hA, allI_end hc1 h1 h2]; rfl]; rfl

set_option maxRecDepth 20000 in
theorem Hides_fn (d : Int × Int × Int) (l : List Int) (hd : i64 d.1 ∧ i64 d.2.1 ∧ i64 d.2.2) (hl : l.length ≤ 1048576) : AFn P 83 [cdeal d, lI l] (.i (cb (hidesOk d l))) [] := by
  refine AFn.of_body Tok 69 Go.Proofs.Try.func83 rfl rfl rfl (by simp) rfl ?_
  rintro ⟨_, _, w0, I0, O0, X0, fx⟩ rfl rfl hT hfx
  refine AWp.seq ?_
  refine AWp.region ?_
  refine AOps.run hT true rfl ?_ ?_
  · repeat' (first | exact trivial | exact Bool.not_or_self _ | refine And.intro ?_ ?_ | (simp; done) | (simp_all; done) | (simp [inR_i64] at *; omega) | decide)
  refine AOps.nil ?_
  repeat (with_reducible first | refine thenNil ?_ | refine blockNil ?_)
  refine AWp.seq ?_
  refine AWp.seq ?_
  refine AWp.region ?_
  refine AOps.run hT true rfl ?_ ?_
  · repeat' (first | exact trivial | exact Bool.not_or_self _ | refine And.intro ?_ ?_ | (simp; done) | (simp_all; done) | (simp [inR_i64] at *; omega) | decide)
  refine AOps.callF (T := T) rfl rfl rfl rfl rfl ?_ (AnnOk_fn d l hd hl) (.inl ⟨by repeat' (first | exact trivial | refine And.intro ?_ ?_ | intro _), by repeat' (first | exact trivial | refine And.intro ?_ ?_ | intro _)⟩) rfl ?_
  · repeat' (first | exact trivial | exact Bool.not_or_self _ | refine And.intro ?_ ?_ | (simp; done) | (simp_all; done) | (simp [inR_i64] at *; omega) | decide)
  refine AOps.run hT true rfl ?_ ?_
  · repeat' (first | exact trivial | exact Bool.not_or_self _ | refine And.intro ?_ ?_ | (simp; done) | (simp_all; done) | (simp [inR_i64] at *; omega) | decide)
  refine AOps.nil ?_
  repeat (with_reducible first | refine thenNil ?_ | refine blockNil ?_)
  refine AWp.cond rfl ?_ (fun hc0 => ?_) (fun hc0 => ?_)
  · repeat' (first | exact trivial | exact Bool.not_or_self _ | refine And.intro ?_ ?_ | (simp; done) | (simp_all; done) | (simp [inR_i64] at *; omega) | decide)
  · try simp only [decide_eq_true_eq, decide_eq_false_iff_not] at hc0
    refine AWp.seq ?_
    refine AWp.region ?_
    refine AOps.run hT true rfl ?_ ?_
    · repeat' (first | exact trivial | exact Bool.not_or_self _ | refine And.intro ?_ ?_ | (simp; done) | (simp_all; done) | (simp [inR_i64] at *; omega) | decide)
    refine AOps.nil ?_
    repeat (with_reducible first | refine thenNil ?_ | refine blockNil ?_)
    refine AWp.ret ?_
    repeat (with_reducible first | refine thenRet ?_ | refine blockRet ?_)
    refine EndsIn.ret rfl ?_ ?_
    · repeat' (first | exact trivial | exact Bool.not_or_self _ | refine And.intro ?_ ?_ | (simp; done) | (simp_all; done) | (simp [inR_i64] at *; omega) | decide)
    refine ⟨[], ?_, rfl, rfl, rfl⟩
    rw [show hidesOk d l = false by unfold hidesOk; rw [show annOk d l = false by simpa using hc0]; rfl]; rfl
  · try simp only [decide_eq_true_eq, decide_eq_false_iff_not] at hc0
    refine AWp.skip ?_
    repeat (with_reducible first | refine thenNil ?_ | refine blockNil ?_)
    refine AWp.seq ?_
    have hA : annOk d l = true := nb hc0
    obtain ⟨hok, _⟩ := ann_split hA
    obtain ⟨hd1, hd2, hd3, hd4⟩ := deal_cards hok
    have hN := shl_range (cards := d.1 + d.2.1 + d.2.2) (by omega) (by omega)
    have hlen : (hidesL d).length ≤ 1048576 := handsL_len (by omega) (by omega)
    refine AWp.region ?_
    refine AOps.run hT true rfl ?_ ?_
    · repeat' (first | exact trivial | exact Bool.not_or_self _ | refine And.intro ?_ ?_ | (simp; done) | (simp_all; done) | (simp [inR_i64] at *; omega) | decide)
    refine AOps.nil ?_
    repeat (with_reducible first | refine thenNil ?_ | refine blockNil ?_)
    refine AWp.seq ?_
    refine AWp.seq ?_
    refine AWp.region ?_
    refine AOps.run hT true rfl ?_ ?_
    · repeat' (first | exact trivial | exact Bool.not_or_self _ | refine And.intro ?_ ?_ | (simp; done) | (simp_all; done) | (simp [inR_i64] at *; omega) | decide)
    refine AOps.callF (T := T) rfl rfl rfl rfl rfl ?_ (sets_fn (d.1 + d.2.1 + d.2.2) d.2.2 (by omega) (by omega) hd.2.2) (.inl ⟨by repeat' (first | exact trivial | refine And.intro ?_ ?_ | intro _), by repeat' (first | exact trivial | refine And.intro ?_ ?_ | intro _)⟩) rfl ?_
    · repeat' (first | exact trivial | exact Bool.not_or_self _ | refine And.intro ?_ ?_ | (simp; done) | (simp_all; done) | (simp [inR_i64] at *; omega) | decide)
    refine AOps.run hT true rfl ?_ ?_
    · repeat' (first | exact trivial | exact Bool.not_or_self _ | refine And.intro ?_ ?_ | (simp; done) | (simp_all; done) | (simp [inR_i64] at *; omega) | decide)
    refine AOps.nil ?_
    repeat (with_reducible first | refine thenNil ?_ | refine blockNil ?_)
    refine AWp.block ?_
    refine AWp.loopS (σ := Int) (fun x => ((hidesL d).length - x).toNat) (fun x => [(1, .i (lI l)), (5, .i (ci (d.1 + d.2.1 + d.2.2))), (28, .osl 1 none), (29, .i (ci (hidesL d).length)), (30, .i (ci x))]) (fun _ => [bD d, oI (hidesL d)]) (fun x => 0 ≤ x ∧ x ≤ (hidesL d).length ∧ allI x.toNat (fun x => hiddenOk l (shlI .i64 1 (d.1 + d.2.1 + d.2.2) - 1) ((hidesL d).getD x.toNat default)) = true) (0) ?_ ?_ ?_
    · refine ⟨?_, ?_, rfl, rfl, fun k hk => Nat.lt_of_lt_of_le (hfx k hk) (Nat.le_of_ble_eq_true rfl)⟩
      · repeat' (first | exact Sub.nil | exact rfl | refine Sub.cons ?_ ?_)
      · repeat' (first | exact HTr.nil | exact objEq_refl _ | exact objEq_app1 | exact objEq_nil | exact objEq_mapP | exact objEq_mapI |  exact objEq_set (by first | omega | (simp; omega)) | exact objEq_appS (by simp) (appF_S rfl (fun _ _ => rfl)) | refine HTr.cons ?_ ?_ | refine HTr.dead rfl ?_)
    · exact ⟨by omega, by omega, rfl⟩
    rintro x ⟨h0, h1, h2⟩
    refine AWp.seq ?_
    refine AWp.region ?_
    refine AOps.run hT true rfl ?_ ?_
    · repeat' (first | exact trivial | exact Bool.not_or_self _ | refine And.intro ?_ ?_ | (simp; done) | (simp_all; done) | (simp [inR_i64] at *; omega) | decide)
    refine AOps.nil ?_
    repeat (with_reducible first | refine thenNil ?_ | refine blockNil ?_)
    refine AWp.seq ?_
    refine AWp.cond rfl ?_ (fun hc1 => ?_) (fun hc1 => ?_)
    · repeat' (first | exact trivial | exact Bool.not_or_self _ | refine And.intro ?_ ?_ | (simp; done) | (simp_all; done) | (simp [inR_i64] at *; omega) | decide)
    · try simp only [decide_eq_true_eq, decide_eq_false_iff_not] at hc1
      refine AWp.skip ?_
      repeat (with_reducible first | refine thenNil ?_ | refine blockNil ?_)
      refine AWp.seq ?_
      refine AWp.block ?_
      refine AWp.seq ?_
      refine AWp.region ?_
      refine AOps.run hT true rfl ?_ ?_
      · repeat' (first | exact trivial | exact Bool.not_or_self _ | refine And.intro ?_ ?_ | (simp; done) | (simp_all; done) | (simp [inR_i64] at *; omega) | decide)
      refine AOps.nil ?_
      repeat (with_reducible first | refine thenNil ?_ | refine blockNil ?_)
      refine AWp.seq ?_
      refine AWp.region ?_
      refine AOps.run hT true rfl ?_ ?_
      · repeat' (first | exact trivial | exact Bool.not_or_self _ | refine And.intro ?_ ?_ | (simp; done) | (simp_all; done) | (simp [inR_i64] at *; omega) | decide)
      refine AOps.nil ?_
      repeat (with_reducible first | refine thenNil ?_ | refine blockNil ?_)
      refine AWp.seq ?_
      refine AWp.seq ?_
      refine AWp.region ?_
      refine AOps.run hT true rfl ?_ ?_
      · repeat' (first | exact trivial | exact Bool.not_or_self _ | refine And.intro ?_ ?_ | (simp; done) | (simp_all; done) | (simp [inR_i64] at *; omega) | decide)
      refine AOps.nil ?_
      repeat (with_reducible first | refine thenNil ?_ | refine blockNil ?_)
      refine AWp.block ?_
      refine AWp.loopS (σ := Int × Int × Int × Bool) (fun (y, _) => (l.length - y).toNat) (fun (y, c, s, m) => [(1, .i (lI l)), (5, .i (ci (d.1 + d.2.1 + d.2.2))), (7, .i (ci ((hidesL d).getD x.toNat default))), (8, .i (ci c)), (9, .i (ci s)), (10, .i (cb m)), (28, .osl 1 none), (29, .i (ci (hidesL d).length)), (30, .i (ci x)), (37, .i (lI l)), (38, .i (ci l.length)), (39, .i (ci y))]) (fun _ => [bD d, oI (hidesL d)]) (fun (y, c, s, m) => 0 ≤ y ∧ y ≤ l.length ∧ hidSt (l.take y.toNat) (shlI .i64 1 (d.1 + d.2.1 + d.2.2) - 1) ((hidesL d).getD x.toNat default) = (c, s, m)) ((0, shlI .i64 1 (d.1 + d.2.1 + d.2.2) - 1, 0, false)) ?_ ?_ ?_
      · refine ⟨?_, ?_, rfl, rfl, fun k hk => Nat.lt_of_lt_of_le (hfx k hk) (Nat.le_of_ble_eq_true rfl)⟩
        · repeat' (first | exact Sub.nil | exact rfl | refine Sub.cons ?_ ?_)
        · repeat' (first | exact HTr.nil | exact objEq_refl _ | exact objEq_app1 | exact objEq_nil | exact objEq_mapP | exact objEq_mapI |  exact objEq_set (by first | omega | (simp; omega)) | exact objEq_appS (by simp) (appF_S rfl (fun _ _ => rfl)) | refine HTr.cons ?_ ?_ | refine HTr.dead rfl ?_)
      · exact ⟨by omega, by omega, rfl⟩
      rintro ⟨y, c, s, m⟩ ⟨g0, g1, g2⟩
      refine AWp.seq ?_
      refine AWp.region ?_
      refine AOps.run hT true rfl ?_ ?_
      · repeat' (first | exact trivial | exact Bool.not_or_self _ | refine And.intro ?_ ?_ | (simp; done) | (simp_all; done) | (simp [inR_i64] at *; omega) | decide)
      refine AOps.nil ?_
      repeat (with_reducible first | refine thenNil ?_ | refine blockNil ?_)
      refine AWp.seq ?_
      refine AWp.cond rfl ?_ (fun hc2 => ?_) (fun hc2 => ?_)
      · repeat' (first | exact trivial | exact Bool.not_or_self _ | refine And.intro ?_ ?_ | (simp; done) | (simp_all; done) | (simp [inR_i64] at *; omega) | decide)
      · try simp only [decide_eq_true_eq, decide_eq_false_iff_not] at hc2
        refine AWp.skip ?_
        repeat (with_reducible first | refine thenNil ?_ | refine blockNil ?_)
        refine AWp.seq ?_
        refine AWp.block ?_
        refine AWp.seq ?_
        refine AWp.region ?_
        refine AOps.run hT true rfl ?_ ?_
        · repeat' (first | exact trivial | exact Bool.not_or_self _ | refine And.intro ?_ ?_ | (simp; done) | (simp_all; done) | (simp [inR_i64] at *; omega) | decide)
        refine AOps.nil ?_
        repeat (with_reducible first | refine thenNil ?_ | refine blockNil ?_)
        refine AWp.seq ?_
        refine AWp.region ?_
        refine AOps.run hT true rfl ?_ ?_
        · repeat' (first | exact trivial | exact Bool.not_or_self _ | refine And.intro ?_ ?_ | (simp; done) | (simp_all; done) | (simp [inR_i64] at *; omega) | decide)
        refine AOps.nil ?_
        repeat (with_reducible first | refine thenNil ?_ | refine blockNil ?_)
        refine AWp.cond rfl ?_ (fun hc3 => ?_) (fun hc3 => ?_)
        · repeat' (first | exact trivial | exact Bool.not_or_self _ | refine And.intro ?_ ?_ | (simp; done) | (simp_all; done) | (simp [inR_i64] at *; omega) | decide)
        · try simp only [decide_eq_true_eq, decide_eq_false_iff_not] at hc3
          refine AWp.seq ?_
          refine AWp.region ?_
          refine AOps.run hT true rfl ?_ ?_
          · repeat' (first | exact trivial | exact Bool.not_or_self _ | refine And.intro ?_ ?_ | (simp; done) | (simp_all; done) | (simp [inR_i64] at *; omega) | decide)
          refine AOps.nil ?_
          repeat (with_reducible first | refine thenNil ?_ | refine blockNil ?_)
          refine AWp.seq ?_
          refine AWp.region ?_
          refine AOps.run hT true rfl ?_ ?_
          · repeat' (first | exact trivial | exact Bool.not_or_self _ | refine And.intro ?_ ?_ | (simp; done) | (simp_all; done) | (simp [inR_i64] at *; omega) | decide)
          refine AOps.nil ?_
          repeat (with_reducible first | refine thenNil ?_ | refine blockNil ?_)
          refine AWp.region ?_
          refine AOps.run hT true rfl ?_ ?_
          · repeat' (first | exact trivial | exact Bool.not_or_self _ | refine And.intro ?_ ?_ | (simp; done) | (simp_all; done) | (simp [inR_i64] at *; omega) | decide)
          refine AOps.nil ?_
          repeat (with_reducible first | refine thenNil ?_ | refine blockNil ?_)
          refine AWp.region ?_
          refine AOps.run hT true rfl ?_ ?_
          · repeat' (first | exact trivial | exact Bool.not_or_self _ | refine And.intro ?_ ?_ | (simp; done) | (simp_all; done) | (simp [inR_i64] at *; omega) | decide)
          refine AOps.nil ?_
          repeat (with_reducible first | refine thenNil ?_ | refine blockNil ?_)
          refine Exists.intro ((y + 1, bitI .and .i64 c (l.getD y.toNat default), bitI .or .i64 s (l.getD y.toNat default), true)) (And.intro (And.intro ?_ ?_) ?_)
          · simp at *; omega
          · exact ⟨by omega, by omega, by rw [hid_succ g0 hc2, g2, hidStep, if_pos hc3]⟩
          · refine ⟨?_, ?_, rfl, rfl, fun k hk => Nat.lt_of_lt_of_le (hfx k hk) (Nat.le_of_ble_eq_true rfl)⟩
            · repeat' (first | exact Sub.nil | exact rfl | refine Sub.cons ?_ ?_)
            · repeat' (first | exact HTr.nil | exact objEq_refl _ | exact objEq_app1 | exact objEq_nil | exact objEq_mapP | exact objEq_mapI |  exact objEq_set (by first | omega | (simp; omega)) | exact objEq_appS (by simp) (appF_S rfl (fun _ _ => rfl)) | refine HTr.cons ?_ ?_ | refine HTr.dead rfl ?_)
        · try simp only [decide_eq_true_eq, decide_eq_false_iff_not] at hc3
          refine AWp.skip ?_
          repeat (with_reducible first | refine thenNil ?_ | refine blockNil ?_)
          refine AWp.region ?_
          refine AOps.run hT true rfl ?_ ?_
          · repeat' (first | exact trivial | exact Bool.not_or_self _ | refine And.intro ?_ ?_ | (simp; done) | (simp_all; done) | (simp [inR_i64] at *; omega) | decide)
          refine AOps.nil ?_
          repeat (with_reducible first | refine thenNil ?_ | refine blockNil ?_)
          refine Exists.intro ((y + 1, c, s, m)) (And.intro (And.intro ?_ ?_) ?_)
          · simp at *; omega
          · exact ⟨by omega, by omega, by rw [hid_succ g0 hc2, g2, hidStep, if_neg (by rw [hc3]; simp)]⟩
          · refine ⟨?_, ?_, rfl, rfl, fun k hk => Nat.lt_of_lt_of_le (hfx k hk) (Nat.le_of_ble_eq_true rfl)⟩
            · repeat' (first | exact Sub.nil | exact rfl | refine Sub.cons ?_ ?_)
            · repeat' (first | exact HTr.nil | exact objEq_refl _ | exact objEq_app1 | exact objEq_nil | exact objEq_mapP | exact objEq_mapI |  exact objEq_set (by first | omega | (simp; omega)) | exact objEq_appS (by simp) (appF_S rfl (fun _ _ => rfl)) | refine HTr.cons ?_ ?_ | refine HTr.dead rfl ?_)
      · try simp only [decide_eq_true_eq, decide_eq_false_iff_not] at hc2
        refine AWp.exit ?_
        repeat (with_reducible first | refine thenExit ?_ | refine blockSame ?_ | refine blockOther rfl ?_ | refine thenNil ?_ | refine blockNil ?_)
        refine AWp.seq ?_
        rw [take_all hc2] at g2
        have hHH : hiddenOk l (shlI .i64 1 (d.1 + d.2.1 + d.2.2) - 1) ((hidesL d).getD x.toNat default) = (!m || (c == 0 && (bitI .or .i64 s ((hidesL d).getD x.toNat default) == shlI .i64 1 (d.1 + d.2.1 + d.2.2) - 1))) := by unfold hiddenOk; rw [g2]
        refine AWp.region ?_
        refine AOps.run hT true rfl ?_ ?_
        · repeat' (first | exact trivial | exact Bool.not_or_self _ | refine And.intro ?_ ?_ | (simp; done) | (simp_all; done) | (simp [inR_i64] at *; omega) | decide)
        refine AOps.nil ?_
        repeat (with_reducible first | refine thenNil ?_ | refine blockNil ?_)
        refine AWp.cond rfl ?_ (fun hc4 => ?_) (fun hc4 => ?_)
        · repeat' (first | exact trivial | exact Bool.not_or_self _ | refine And.intro ?_ ?_ | (simp; done) | (simp_all; done) | (simp [inR_i64] at *; omega) | decide)
        · try simp only [decide_eq_true_eq, decide_eq_false_iff_not] at hc4
          refine AWp.seq ?_
          have hH := hHH.trans (nt ((hid_i _ _ _ _ _).symm.trans hc4))
          refine AWp.region ?_
          refine AOps.run hT true rfl ?_ ?_
          · repeat' (first | exact trivial | exact Bool.not_or_self _ | refine And.intro ?_ ?_ | (simp; done) | (simp_all; done) | (simp [inR_i64] at *; omega) | decide)
          refine AOps.nil ?_
          repeat (with_reducible first | refine thenNil ?_ | refine blockNil ?_)
          refine AWp.ret ?_
          repeat (with_reducible first | refine thenRet ?_ | refine blockRet ?_)
          refine EndsIn.ret rfl ?_ ?_
          · repeat' (first | exact trivial | exact Bool.not_or_self _ | refine And.intro ?_ ?_ | (simp; done) | (simp_all; done) | (simp [inR_i64] at *; omega) | decide)
          refine ⟨[], ?_, rfl, rfl, rfl⟩
          rw [show hidesOk d l = false by unfold hidesOk; rw [allI_hit h0 hc1 (hH), Bool.and_false]]; rfl
        · try simp only [decide_eq_true_eq, decide_eq_false_iff_not] at hc4
          refine AWp.skip ?_
          repeat (with_reducible first | refine thenNil ?_ | refine blockNil ?_)
          have hH := hHH.trans (nb ((hid_i _ _ _ _ _).symm.trans hc4))
          refine AWp.region ?_
          refine AOps.run hT true rfl ?_ ?_
          · repeat' (first | exact trivial | exact Bool.not_or_self _ | refine And.intro ?_ ?_ | (simp; done) | (simp_all; done) | (simp [inR_i64] at *; omega) | decide)
          refine AOps.nil ?_
          repeat (with_reducible first | refine thenNil ?_ | refine blockNil ?_)
          refine Exists.intro (x + 1) (And.intro (And.intro ?_ ?_) ?_)
          · simp at *; omega
          · exact ⟨by omega, by omega, allI_next h0 h2 hH⟩
          · refine ⟨?_, ?_, rfl, rfl, fun k hk => Nat.lt_of_lt_of_le (hfx k hk) (Nat.le_of_ble_eq_true rfl)⟩
            · repeat' (first | exact Sub.nil | exact rfl | refine Sub.cons ?_ ?_)
            · repeat' (first | exact HTr.nil | exact objEq_refl _ | exact objEq_app1 | exact objEq_nil | exact objEq_mapP | exact objEq_mapI |  exact objEq_set (by first | omega | (simp; omega)) | exact objEq_appS (by simp) (appF_S rfl (fun _ _ => rfl)) | refine HTr.cons ?_ ?_ | refine HTr.dead rfl ?_)
    · try simp only [decide_eq_true_eq, decide_eq_false_iff_not] at hc1
      refine AWp.exit ?_
      repeat (with_reducible first | refine thenExit ?_ | refine blockSame ?_ | refine blockOther rfl ?_ | refine thenNil ?_ | refine blockNil ?_)
      refine AWp.seq ?_
      refine AWp.region ?_
      refine AOps.run hT true rfl ?_ ?_
      · repeat' (first | exact trivial | exact Bool.not_or_self _ | refine And.intro ?_ ?_ | (simp; done) | (simp_all; done) | (simp [inR_i64] at *; omega) | decide)
      refine AOps.nil ?_
      repeat (with_reducible first | refine thenNil ?_ | refine blockNil ?_)
      refine AWp.ret ?_
      repeat (with_reducible first | refine thenRet ?_ | refine blockRet ?_)
      refine EndsIn.ret rfl ?_ ?_
      · repeat' (first | exact trivial | exact Bool.not_or_self _ | refine And.intro ?_ ?_ | (simp; done) | (simp_all; done) | (simp [inR_i64] at *; omega) | decide)
      refine ⟨[], ?_, rfl, rfl, rfl⟩
      rw [show hidesOk d l = true by unfold hidesOk; rw [hA, allI_end hc1 h1 h2]; rfl]; rfl

set_option maxRecDepth 20000 in
theorem law24 (d : Int × Int × Int) (l : List Int) (hd : i64 d.1 ∧ i64 d.2.1 ∧ i64 d.2.2) (hm : l.length ≤ maxLen) : AFn P 24 [cdeal d, lI l] (.i (cb true)) [] := by
  refine AFn.of_body Tok 30 Go.Proofs.Try.func24 rfl rfl rfl (by simp) rfl ?_
  rintro ⟨_, _, w0, I0, O0, X0, fx⟩ rfl rfl hT hfx
  refine AWp.seq ?_
  refine AWp.region ?_
  refine AOps.run hT true rfl ?_ ?_
  · repeat' (first | exact trivial | exact Bool.not_or_self _ | refine And.intro ?_ ?_ | (simp; done) | (simp_all; done) | (simp [inR_i64] at *; omega) | decide)
  refine AOps.nil ?_
  repeat (with_reducible first | refine thenNil ?_ | refine blockNil ?_)
  refine AWp.seq ?_
  refine AWp.seq ?_
  refine AWp.region ?_
  refine AOps.run hT true rfl ?_ ?_
  · repeat' (first | exact trivial | exact Bool.not_or_self _ | refine And.intro ?_ ?_ | (simp; done) | (simp_all; done) | (simp [inR_i64] at *; omega) | decide)
  refine AOps.nil ?_
  repeat (with_reducible first | refine thenNil ?_ | refine blockNil ?_)
  refine AWp.cond rfl ?_ (fun hc0 => ?_) (fun hc0 => ?_)
  · repeat' (first | exact trivial | exact Bool.not_or_self _ | refine And.intro ?_ ?_ | (simp; done) | (simp_all; done) | (simp [inR_i64] at *; omega) | decide)
  · try simp only [decide_eq_true_eq, decide_eq_false_iff_not] at hc0
    refine AWp.seq ?_
    skip
    refine AWp.region ?_
    refine AOps.run hT true rfl ?_ ?_
    · repeat' (first | exact trivial | exact Bool.not_or_self _ | refine And.intro ?_ ?_ | (simp; done) | (simp_all; done) | (simp [inR_i64] at *; omega) | decide)
    refine AOps.nil ?_
    repeat (with_reducible first | refine thenNil ?_ | refine blockNil ?_)
    refine AWp.ret ?_
    repeat (with_reducible first | refine thenRet ?_ | refine blockRet ?_)
    refine EndsIn.ret rfl ?_ ?_
    · repeat' (first | exact trivial | exact Bool.not_or_self _ | refine And.intro ?_ ?_ | (simp; done) | (simp_all; done) | (simp [inR_i64] at *; omega) | decide)
    refine ⟨[], ?_, rfl, rfl, rfl⟩
    rfl
  · try simp only [decide_eq_true_eq, decide_eq_false_iff_not] at hc0
    refine AWp.skip ?_
    repeat (with_reducible first | refine thenNil ?_ | refine blockNil ?_)
    refine AWp.seq ?_
    have hl : l.length ≤ 1048576 := by omega
    refine AWp.region ?_
    refine AOps.run hT true rfl ?_ ?_
    · repeat' (first | exact trivial | exact Bool.not_or_self _ | refine And.intro ?_ ?_ | (simp; done) | (simp_all; done) | (simp [inR_i64] at *; omega) | decide)
    refine AOps.callF (T := T) rfl rfl rfl rfl rfl ?_ (toDeal_fn d) (.inl ⟨by repeat' (first | exact trivial | refine And.intro ?_ ?_ | intro _), by repeat' (first | exact trivial | refine And.intro ?_ ?_ | intro _)⟩) rfl ?_
    · repeat' (first | exact trivial | exact Bool.not_or_self _ | refine And.intro ?_ ?_ | (simp; done) | (simp_all; done) | (simp [inR_i64] at *; omega) | decide)
    refine AOps.run hT true rfl ?_ ?_
    · repeat' (first | exact trivial | exact Bool.not_or_self _ | refine And.intro ?_ ?_ | (simp; done) | (simp_all; done) | (simp [inR_i64] at *; omega) | decide)
    refine AOps.callF (T := T) rfl rfl rfl rfl rfl ?_ (toIntS_fn l hl) (.inl ⟨by repeat' (first | exact trivial | refine And.intro ?_ ?_ | intro _), by repeat' (first | exact trivial | refine And.intro ?_ ?_ | intro _)⟩) rfl ?_
    · repeat' (first | exact trivial | exact Bool.not_or_self _ | refine And.intro ?_ ?_ | (simp; done) | (simp_all; done) | (simp [inR_i64] at *; omega) | decide)
    refine AOps.callF (T := T) rfl rfl rfl rfl rfl ?_ (sHides_fn d l hd hl) (.inl ⟨by repeat' (first | exact trivial | refine And.intro ?_ ?_ | intro _), by repeat' (first | exact trivial | refine And.intro ?_ ?_ | intro _)⟩) rfl ?_
    · repeat' (first | exact trivial | exact Bool.not_or_self _ | refine And.intro ?_ ?_ | (simp; done) | (simp_all; done) | (simp [inR_i64] at *; omega) | decide)
    refine AOps.run hT true rfl ?_ ?_
    · repeat' (first | exact trivial | exact Bool.not_or_self _ | refine And.intro ?_ ?_ | (simp; done) | (simp_all; done) | (simp [inR_i64] at *; omega) | decide)
    refine AOps.nil ?_
    repeat (with_reducible first | refine thenNil ?_ | refine blockNil ?_)
    refine AWp.seq ?_
    refine AWp.region ?_
    refine AOps.run hT true rfl ?_ ?_
    · repeat' (first | exact trivial | exact Bool.not_or_self _ | refine And.intro ?_ ?_ | (simp; done) | (simp_all; done) | (simp [inR_i64] at *; omega) | decide)
    refine AOps.callF (T := T) rfl rfl rfl rfl rfl ?_ (toIntS_fn l hl) (.inl ⟨by repeat' (first | exact trivial | refine And.intro ?_ ?_ | intro _), by repeat' (first | exact trivial | refine And.intro ?_ ?_ | intro _)⟩) rfl ?_
    · repeat' (first | exact trivial | exact Bool.not_or_self _ | refine And.intro ?_ ?_ | (simp; done) | (simp_all; done) | (simp [inR_i64] at *; omega) | decide)
    refine AOps.run hT true rfl ?_ ?_
    · repeat' (first | exact trivial | exact Bool.not_or_self _ | refine And.intro ?_ ?_ | (simp; done) | (simp_all; done) | (simp [inR_i64] at *; omega) | decide)
    refine AOps.nil ?_
    repeat (with_reducible first | refine thenNil ?_ | refine blockNil ?_)
    refine AWp.seq ?_
    refine AWp.region ?_
    refine AOps.run hT true rfl ?_ ?_
    · repeat' (first | exact trivial | exact Bool.not_or_self _ | refine And.intro ?_ ?_ | (simp; done) | (simp_all; done) | (simp [inR_i64] at *; omega) | decide)
    refine AOps.callF (T := T) rfl rfl rfl rfl rfl ?_ (toDeal_fn d) (.inl ⟨by repeat' (first | exact trivial | refine And.intro ?_ ?_ | intro _), by repeat' (first | exact trivial | refine And.intro ?_ ?_ | intro _)⟩) rfl ?_
    · repeat' (first | exact trivial | exact Bool.not_or_self _ | refine And.intro ?_ ?_ | (simp; done) | (simp_all; done) | (simp [inR_i64] at *; omega) | decide)
    refine AOps.run hT true rfl ?_ ?_
    · repeat' (first | exact trivial | exact Bool.not_or_self _ | refine And.intro ?_ ?_ | (simp; done) | (simp_all; done) | (simp [inR_i64] at *; omega) | decide)
    refine AOps.callF (T := T) rfl rfl rfl rfl rfl ?_ (Hides_fn d l hd hl) (.inl ⟨by repeat' (first | exact trivial | refine And.intro ?_ ?_ | intro _), by repeat' (first | exact trivial | refine And.intro ?_ ?_ | intro _)⟩) rfl ?_
    · repeat' (first | exact trivial | exact Bool.not_or_self _ | refine And.intro ?_ ?_ | (simp; done) | (simp_all; done) | (simp [inR_i64] at *; omega) | decide)
    refine AOps.run hT true rfl ?_ ?_
    · repeat' (first | exact trivial | exact Bool.not_or_self _ | refine And.intro ?_ ?_ | (simp; done) | (simp_all; done) | (simp [inR_i64] at *; omega) | decide)
    refine AOps.nil ?_
    repeat (with_reducible first | refine thenNil ?_ | refine blockNil ?_)
    refine AWp.seq ?_
    refine AWp.seq ?_
    refine AWp.region ?_
    refine AOps.run hT true rfl ?_ ?_
    · repeat' (first | exact trivial | exact Bool.not_or_self _ | refine And.intro ?_ ?_ | (simp; done) | (simp_all; done) | (simp [inR_i64] at *; omega) | decide)
    refine AOps.nil ?_
    repeat (with_reducible first | refine thenNil ?_ | refine blockNil ?_)
    refine AWp.cond rfl ?_ (fun hc1 => ?_) (fun hc1 => ?_)
    · repeat' (first | exact trivial | exact Bool.not_or_self _ | refine And.intro ?_ ?_ | (simp; done) | (simp_all; done) | (simp [inR_i64] at *; omega) | decide)
    · simp at hc1
    · try simp only [decide_eq_true_eq, decide_eq_false_iff_not] at hc1
      refine AWp.skip ?_
      repeat (with_reducible first | refine thenNil ?_ | refine blockNil ?_)
      refine AWp.seq ?_
      refine AWp.seq ?_
      refine AWp.region ?_
      refine AOps.run hT true rfl ?_ ?_
      · repeat' (first | exact trivial | exact Bool.not_or_self _ | refine And.intro ?_ ?_ | (simp; done) | (simp_all; done) | (simp [inR_i64] at *; omega) | decide)
      refine AOps.callF (T := T) rfl rfl rfl rfl rfl ?_ (toIntS_fn l hl) (.inl ⟨by repeat' (first | exact trivial | refine And.intro ?_ ?_ | intro _), by repeat' (first | exact trivial | refine And.intro ?_ ?_ | intro _)⟩) rfl ?_
      · repeat' (first | exact trivial | exact Bool.not_or_self _ | refine And.intro ?_ ?_ | (simp; done) | (simp_all; done) | (simp [inR_i64] at *; omega) | decide)
      refine AOps.callF (T := T) rfl rfl rfl rfl rfl ?_ (eqIntS_fn l hl) (.inl ⟨by repeat' (first | exact trivial | refine And.intro ?_ ?_ | intro _), by repeat' (first | exact trivial | refine And.intro ?_ ?_ | intro _)⟩) rfl ?_
      · repeat' (first | exact trivial | exact Bool.not_or_self _ | refine And.intro ?_ ?_ | (simp; done) | (simp_all; done) | (simp [inR_i64] at *; omega) | decide)
      refine AOps.run hT true rfl ?_ ?_
      · repeat' (first | exact trivial | exact Bool.not_or_self _ | refine And.intro ?_ ?_ | (simp; done) | (simp_all; done) | (simp [inR_i64] at *; omega) | decide)
      refine AOps.nil ?_
      repeat (with_reducible first | refine thenNil ?_ | refine blockNil ?_)
      refine AWp.cond rfl ?_ (fun hc2 => ?_) (fun hc2 => ?_)
      · repeat' (first | exact trivial | exact Bool.not_or_self _ | refine And.intro ?_ ?_ | (simp; done) | (simp_all; done) | (simp [inR_i64] at *; omega) | decide)
      · simp at hc2
      · try simp only [decide_eq_true_eq, decide_eq_false_iff_not] at hc2
        refine AWp.skip ?_
        repeat (with_reducible first | refine thenNil ?_ | refine blockNil ?_)
        refine AWp.seq ?_
        refine AWp.region ?_
        refine AOps.run hT true rfl ?_ ?_
        · repeat' (first | exact trivial | exact Bool.not_or_self _ | refine And.intro ?_ ?_ | (simp; done) | (simp_all; done) | (simp [inR_i64] at *; omega) | decide)
        refine AOps.nil ?_
        repeat (with_reducible first | refine thenNil ?_ | refine blockNil ?_)
        refine AWp.ret ?_
        repeat (with_reducible first | refine thenRet ?_ | refine blockRet ?_)
        refine EndsIn.ret rfl ?_ ?_
        · repeat' (first | exact trivial | exact Bool.not_or_self _ | refine And.intro ?_ ?_ | (simp; done) | (simp_all; done) | (simp [inR_i64] at *; omega) | decide)
        refine ⟨[], ?_, rfl, rfl, rfl⟩
        rfl

set_option maxRecDepth 20000 in
theorem sSafe_fn (d : Int × Int × Int) (l : List Int) (hd : i64 d.1 ∧ i64 d.2.1 ∧ i64 d.2.2) (hl : l.length ≤ 1048576) : AFn P 84 [cdeal d, lI l] (.i (cb (safeOk d l))) [] := by
  refine AFn.of_body Tok 13 Go.Proofs.Try.func84 rfl rfl rfl (by simp) rfl ?_
  rintro ⟨_, _, w0, I0, O0, X0, fx⟩ rfl rfl hT hfx
  refine AWp.seq ?_
  refine AWp.region ?_
  refine AOps.run hT true rfl ?_ ?_
  · repeat' (first | exact trivial | exact Bool.not_or_self _ | refine And.intro ?_ ?_ | (simp; done) | (simp_all; done) | (simp [inR_i64] at *; omega) | decide)
  refine AOps.nil ?_
  repeat (with_reducible first | refine thenNil ?_ | refine blockNil ?_)
  refine AWp.seq ?_
  refine AWp.region ?_
  refine AOps.run hT true rfl ?_ ?_
  · repeat' (first | exact trivial | exact Bool.not_or_self _ | refine And.intro ?_ ?_ | (simp; done) | (simp_all; done) | (simp [inR_i64] at *; omega) | decide)
  refine AOps.callF (T := T) rfl rfl rfl rfl rfl ?_ (sTells_fn d l hd hl) (.inl ⟨by repeat' (first | exact trivial | refine And.intro ?_ ?_ | intro _), by repeat' (first | exact trivial | refine And.intro ?_ ?_ | intro _)⟩) rfl ?_
  · repeat' (first | exact trivial | exact Bool.not_or_self _ | refine And.intro ?_ ?_ | (simp; done) | (simp_all; done) | (simp [inR_i64] at *; omega) | decide)
  refine AOps.run hT true rfl ?_ ?_
  · repeat' (first | exact trivial | exact Bool.not_or_self _ | refine And.intro ?_ ?_ | (simp; done) | (simp_all; done) | (simp [inR_i64] at *; omega) | decide)
  refine AOps.callG (T := T) rfl rfl rfl rfl rfl (fun hg => ?_) (fun hg => sHides_fn d l hd hl) (.inl (by repeat' (first | exact trivial | refine And.intro ?_ ?_ | intro _))) rfl ?_
  · repeat' (first | exact trivial | exact Bool.not_or_self _ | refine And.intro ?_ ?_ | (simp; done) | (simp_all; done) | (simp [inR_i64] at *; omega) | decide)
  refine AOps.run hT true rfl ?_ ?_
  · repeat' (first | exact trivial | exact Bool.not_or_self _ | refine And.intro ?_ ?_ | (simp; done) | (simp_all; done) | (simp [inR_i64] at *; omega) | decide)
  refine AOps.nil ?_
  repeat (with_reducible first | refine thenNil ?_ | refine blockNil ?_)
  refine AWp.ret ?_
  repeat (with_reducible first | refine thenRet ?_ | refine blockRet ?_)
  refine EndsIn.ret rfl ?_ ?_
  · repeat' (first | exact trivial | exact Bool.not_or_self _ | refine And.intro ?_ ?_ | (simp; done) | (simp_all; done) | (simp [inR_i64] at *; omega) | decide)
  refine ⟨[], ?_, rfl, rfl, rfl⟩
  rw [show safeOk d l = _ from (cond_and _ _).symm]; rfl

set_option maxRecDepth 20000 in
theorem Safe_fn (d : Int × Int × Int) (l : List Int) (hd : i64 d.1 ∧ i64 d.2.1 ∧ i64 d.2.2) (hl : l.length ≤ 1048576) : AFn P 85 [cdeal d, lI l] (.i (cb (safeOk d l))) [] := by
  refine AFn.of_body Tok 13 Go.Proofs.Try.func85 rfl rfl rfl (by simp) rfl ?_
  rintro ⟨_, _, w0, I0, O0, X0, fx⟩ rfl rfl hT hfx
  refine AWp.seq ?_
  refine AWp.region ?_
  refine AOps.run hT true rfl ?_ ?_
  · repeat' (first | exact trivial | exact Bool.not_or_self _ | refine And.intro ?_ ?_ | (simp; done) | (simp_all; done) | (simp [inR_i64] at *; omega) | decide)
  refine AOps.nil ?_
  repeat (with_reducible first | refine thenNil ?_ | refine blockNil ?_)
  refine AWp.seq ?_
  refine AWp.region ?_
  refine AOps.run hT true rfl ?_ ?_
  · repeat' (first | exact trivial | exact Bool.not_or_self _ | refine And.intro ?_ ?_ | (simp; done) | (simp_all; done) | (simp [inR_i64] at *; omega) | decide)
  refine AOps.callF (T := T) rfl rfl rfl rfl rfl ?_ (Tells_fn d l hd hl) (.inl ⟨by repeat' (first | exact trivial | refine And.intro ?_ ?_ | intro _), by repeat' (first | exact trivial | refine And.intro ?_ ?_ | intro _)⟩) rfl ?_
  · repeat' (first | exact trivial | exact Bool.not_or_self _ | refine And.intro ?_ ?_ | (simp; done) | (simp_all; done) | (simp [inR_i64] at *; omega) | decide)
  refine AOps.run hT true rfl ?_ ?_
  · repeat' (first | exact trivial | exact Bool.not_or_self _ | refine And.intro ?_ ?_ | (simp; done) | (simp_all; done) | (simp [inR_i64] at *; omega) | decide)
  refine AOps.callG (T := T) rfl rfl rfl rfl rfl (fun hg => ?_) (fun hg => Hides_fn d l hd hl) (.inl (by repeat' (first | exact trivial | refine And.intro ?_ ?_ | intro _))) rfl ?_
  · repeat' (first | exact trivial | exact Bool.not_or_self _ | refine And.intro ?_ ?_ | (simp; done) | (simp_all; done) | (simp [inR_i64] at *; omega) | decide)
  refine AOps.run hT true rfl ?_ ?_
  · repeat' (first | exact trivial | exact Bool.not_or_self _ | refine And.intro ?_ ?_ | (simp; done) | (simp_all; done) | (simp [inR_i64] at *; omega) | decide)
  refine AOps.nil ?_
  repeat (with_reducible first | refine thenNil ?_ | refine blockNil ?_)
  refine AWp.ret ?_
  repeat (with_reducible first | refine thenRet ?_ | refine blockRet ?_)
  refine EndsIn.ret rfl ?_ ?_
  · repeat' (first | exact trivial | exact Bool.not_or_self _ | refine And.intro ?_ ?_ | (simp; done) | (simp_all; done) | (simp [inR_i64] at *; omega) | decide)
  refine ⟨[], ?_, rfl, rfl, rfl⟩
  rw [show safeOk d l = _ from (cond_and _ _).symm]; rfl

set_option maxRecDepth 20000 in
theorem law25 (d : Int × Int × Int) (l : List Int) (hd : i64 d.1 ∧ i64 d.2.1 ∧ i64 d.2.2) (hm : l.length ≤ maxLen) : AFn P 25 [cdeal d, lI l] (.i (cb true)) [] := by
  refine AFn.of_body Tok 30 Go.Proofs.Try.func25 rfl rfl rfl (by simp) rfl ?_
  rintro ⟨_, _, w0, I0, O0, X0, fx⟩ rfl rfl hT hfx
  refine AWp.seq ?_
  refine AWp.region ?_
  refine AOps.run hT true rfl ?_ ?_
  · repeat' (first | exact trivial | exact Bool.not_or_self _ | refine And.intro ?_ ?_ | (simp; done) | (simp_all; done) | (simp [inR_i64] at *; omega) | decide)
  refine AOps.nil ?_
  repeat (with_reducible first | refine thenNil ?_ | refine blockNil ?_)
  refine AWp.seq ?_
  refine AWp.seq ?_
  refine AWp.region ?_
  refine AOps.run hT true rfl ?_ ?_
  · repeat' (first | exact trivial | exact Bool.not_or_self _ | refine And.intro ?_ ?_ | (simp; done) | (simp_all; done) | (simp [inR_i64] at *; omega) | decide)
  refine AOps.nil ?_
  repeat (with_reducible first | refine thenNil ?_ | refine blockNil ?_)
  refine AWp.cond rfl ?_ (fun hc0 => ?_) (fun hc0 => ?_)
  · repeat' (first | exact trivial | exact Bool.not_or_self _ | refine And.intro ?_ ?_ | (simp; done) | (simp_all; done) | (simp [inR_i64] at *; omega) | decide)
  · try simp only [decide_eq_true_eq, decide_eq_false_iff_not] at hc0
    refine AWp.seq ?_
    skip
    refine AWp.region ?_
    refine AOps.run hT true rfl ?_ ?_
    · repeat' (first | exact trivial | exact Bool.not_or_self _ | refine And.intro ?_ ?_ | (simp; done) | (simp_all; done) | (simp [inR_i64] at *; omega) | decide)
    refine AOps.nil ?_
    repeat (with_reducible first | refine thenNil ?_ | refine blockNil ?_)
    refine AWp.ret ?_
    repeat (with_reducible first | refine thenRet ?_ | refine blockRet ?_)
    refine EndsIn.ret rfl ?_ ?_
    · repeat' (first | exact trivial | exact Bool.not_or_self _ | refine And.intro ?_ ?_ | (simp; done) | (simp_all; done) | (simp [inR_i64] at *; omega) | decide)
    refine ⟨[], ?_, rfl, rfl, rfl⟩
    rfl
  · try simp only [decide_eq_true_eq, decide_eq_false_iff_not] at hc0
    refine AWp.skip ?_
    repeat (with_reducible first | refine thenNil ?_ | refine blockNil ?_)
    refine AWp.seq ?_
    have hl : l.length ≤ 1048576 := by omega
    refine AWp.region ?_
    refine AOps.run hT true rfl ?_ ?_
    · repeat' (first | exact trivial | exact Bool.not_or_self _ | refine And.intro ?_ ?_ | (simp; done) | (simp_all; done) | (simp [inR_i64] at *; omega) | decide)
    refine AOps.callF (T := T) rfl rfl rfl rfl rfl ?_ (toDeal_fn d) (.inl ⟨by repeat' (first | exact trivial | refine And.intro ?_ ?_ | intro _), by repeat' (first | exact trivial | refine And.intro ?_ ?_ | intro _)⟩) rfl ?_
    · repeat' (first | exact trivial | exact Bool.not_or_self _ | refine And.intro ?_ ?_ | (simp; done) | (simp_all; done) | (simp [inR_i64] at *; omega) | decide)
    refine AOps.run hT true rfl ?_ ?_
    · repeat' (first | exact trivial | exact Bool.not_or_self _ | refine And.intro ?_ ?_ | (simp; done) | (simp_all; done) | (simp [inR_i64] at *; omega) | decide)
    refine AOps.callF (T := T) rfl rfl rfl rfl rfl ?_ (toIntS_fn l hl) (.inl ⟨by repeat' (first | exact trivial | refine And.intro ?_ ?_ | intro _), by repeat' (first | exact trivial | refine And.intro ?_ ?_ | intro _)⟩) rfl ?_
    · repeat' (first | exact trivial | exact Bool.not_or_self _ | refine And.intro ?_ ?_ | (simp; done) | (simp_all; done) | (simp [inR_i64] at *; omega) | decide)
    refine AOps.callF (T := T) rfl rfl rfl rfl rfl ?_ (sSafe_fn d l hd hl) (.inl ⟨by repeat' (first | exact trivial | refine And.intro ?_ ?_ | intro _), by repeat' (first | exact trivial | refine And.intro ?_ ?_ | intro _)⟩) rfl ?_
    · repeat' (first | exact trivial | exact Bool.not_or_self _ | refine And.intro ?_ ?_ | (simp; done) | (simp_all; done) | (simp [inR_i64] at *; omega) | decide)
    refine AOps.run hT true rfl ?_ ?_
    · repeat' (first | exact trivial | exact Bool.not_or_self _ | refine And.intro ?_ ?_ | (simp; done) | (simp_all; done) | (simp [inR_i64] at *; omega) | decide)
    refine AOps.nil ?_
    repeat (with_reducible first | refine thenNil ?_ | refine blockNil ?_)
    refine AWp.seq ?_
    refine AWp.region ?_
    refine AOps.run hT true rfl ?_ ?_
    · repeat' (first | exact trivial | exact Bool.not_or_self _ | refine And.intro ?_ ?_ | (simp; done) | (simp_all; done) | (simp [inR_i64] at *; omega) | decide)
    refine AOps.callF (T := T) rfl rfl rfl rfl rfl ?_ (toIntS_fn l hl) (.inl ⟨by repeat' (first | exact trivial | refine And.intro ?_ ?_ | intro _), by repeat' (first | exact trivial | refine And.intro ?_ ?_ | intro _)⟩) rfl ?_
    · repeat' (first | exact trivial | exact Bool.not_or_self _ | refine And.intro ?_ ?_ | (simp; done) | (simp_all; done) | (simp [inR_i64] at *; omega) | decide)
    refine AOps.run hT true rfl ?_ ?_
    · repeat' (first | exact trivial | exact Bool.not_or_self _ | refine And.intro ?_ ?_ | (simp; done) | (simp_all; done) | (simp [inR_i64] at *; omega) | decide)
    refine AOps.nil ?_
    repeat (with_reducible first | refine thenNil ?_ | refine blockNil ?_)
    refine AWp.seq ?_
    refine AWp.region ?_
    refine AOps.run hT true rfl ?_ ?_
    · repeat' (first | exact trivial | exact Bool.not_or_self _ | refine And.intro ?_ ?_ | (simp; done) | (simp_all; done) | (simp [inR_i64] at *; omega) | decide)
    refine AOps.callF (T := T) rfl rfl rfl rfl rfl ?_ (toDeal_fn d) (.inl ⟨by repeat' (first | exact trivial | refine And.intro ?_ ?_ | intro _), by repeat' (first | exact trivial | refine And.intro ?_ ?_ | intro _)⟩) rfl ?_
    · repeat' (first | exact trivial | exact Bool.not_or_self _ | refine And.intro ?_ ?_ | (simp; done) | (simp_all; done) | (simp [inR_i64] at *; omega) | decide)
    refine AOps.run hT true rfl ?_ ?_
    · repeat' (first | exact trivial | exact Bool.not_or_self _ | refine And.intro ?_ ?_ | (simp; done) | (simp_all; done) | (simp [inR_i64] at *; omega) | decide)
    refine AOps.callF (T := T) rfl rfl rfl rfl rfl ?_ (Safe_fn d l hd hl) (.inl ⟨by repeat' (first | exact trivial | refine And.intro ?_ ?_ | intro _), by repeat' (first | exact trivial | refine And.intro ?_ ?_ | intro _)⟩) rfl ?_
    · repeat' (first | exact trivial | exact Bool.not_or_self _ | refine And.intro ?_ ?_ | (simp; done) | (simp_all; done) | (simp [inR_i64] at *; omega) | decide)
    refine AOps.run hT true rfl ?_ ?_
    · repeat' (first | exact trivial | exact Bool.not_or_self _ | refine And.intro ?_ ?_ | (simp; done) | (simp_all; done) | (simp [inR_i64] at *; omega) | decide)
    refine AOps.nil ?_
    repeat (with_reducible first | refine thenNil ?_ | refine blockNil ?_)
    refine AWp.seq ?_
    refine AWp.seq ?_
    refine AWp.region ?_
    refine AOps.run hT true rfl ?_ ?_
    · repeat' (first | exact trivial | exact Bool.not_or_self _ | refine And.intro ?_ ?_ | (simp; done) | (simp_all; done) | (simp [inR_i64] at *; omega) | decide)
    refine AOps.nil ?_
    repeat (with_reducible first | refine thenNil ?_ | refine blockNil ?_)
    refine AWp.cond rfl ?_ (fun hc1 => ?_) (fun hc1 => ?_)
    · repeat' (first | exact trivial | exact Bool.not_or_self _ | refine And.intro ?_ ?_ | (simp; done) | (simp_all; done) | (simp [inR_i64] at *; omega) | decide)
    · simp at hc1
    · try simp only [decide_eq_true_eq, decide_eq_false_iff_not] at hc1
      refine AWp.skip ?_
      repeat (with_reducible first | refine thenNil ?_ | refine blockNil ?_)
      refine AWp.seq ?_
      refine AWp.seq ?_
      refine AWp.region ?_
      refine AOps.run hT true rfl ?_ ?_
      · repeat' (first | exact trivial | exact Bool.not_or_self _ | refine And.intro ?_ ?_ | (simp; done) | (simp_all; done) | (simp [inR_i64] at *; omega) | decide)
      refine AOps.callF (T := T) rfl rfl rfl rfl rfl ?_ (toIntS_fn l hl) (.inl ⟨by repeat' (first | exact trivial | refine And.intro ?_ ?_ | intro _), by repeat' (first | exact trivial | refine And.intro ?_ ?_ | intro _)⟩) rfl ?_
      · repeat' (first | exact trivial | exact Bool.not_or_self _ | refine And.intro ?_ ?_ | (simp; done) | (simp_all; done) | (simp [inR_i64] at *; omega) | decide)
      refine AOps.callF (T := T) rfl rfl rfl rfl rfl ?_ (eqIntS_fn l hl) (.inl ⟨by repeat' (first | exact trivial | refine And.intro ?_ ?_ | intro _), by repeat' (first | exact trivial | refine And.intro ?_ ?_ | intro _)⟩) rfl ?_
      · repeat' (first | exact trivial | exact Bool.not_or_self _ | refine And.intro ?_ ?_ | (simp; done) | (simp_all; done) | (simp [inR_i64] at *; omega) | decide)
      refine AOps.run hT true rfl ?_ ?_
      · repeat' (first | exact trivial | exact Bool.not_or_self _ | refine And.intro ?_ ?_ | (simp; done) | (simp_all; done) | (simp [inR_i64] at *; omega) | decide)
      refine AOps.nil ?_
      repeat (with_reducible first | refine thenNil ?_ | refine blockNil ?_)
      refine AWp.cond rfl ?_ (fun hc2 => ?_) (fun hc2 => ?_)
      · repeat' (first | exact trivial | exact Bool.not_or_self _ | refine And.intro ?_ ?_ | (simp; done) | (simp_all; done) | (simp [inR_i64] at *; omega) | decide)
      · simp at hc2
      · try simp only [decide_eq_true_eq, decide_eq_false_iff_not] at hc2
        refine AWp.skip ?_
        repeat (with_reducible first | refine thenNil ?_ | refine blockNil ?_)
        refine AWp.seq ?_
        refine AWp.region ?_
        refine AOps.run hT true rfl ?_ ?_
        · repeat' (first | exact trivial | exact Bool.not_or_self _ | refine And.intro ?_ ?_ | (simp; done) | (simp_all; done) | (simp [inR_i64] at *; omega) | decide)
        refine AOps.nil ?_
        repeat (with_reducible first | refine thenNil ?_ | refine blockNil ?_)
        refine AWp.ret ?_
        repeat (with_reducible first | refine thenRet ?_ | refine blockRet ?_)
        refine EndsIn.ret rfl ?_ ?_
        · repeat' (first | exact trivial | exact Bool.not_or_self _ | refine And.intro ?_ ?_ | (simp; done) | (simp_all; done) | (simp [inR_i64] at *; omega) | decide)
        refine ⟨[], ?_, rfl, rfl, rfl⟩
        rfl

end Go.AMA
