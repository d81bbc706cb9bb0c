/- Contracts of functions of the program, for the claims of this seat. -/
import Derived.Test.YtciempegimofhaaA10
import Derived.Test.YtciempegimofhaaA7
set_option linter.unusedSectionVars false
set_option linter.unusedSimpArgs false
set_option linter.unusedVariables false
set_option linter.unnecessarySimpa false
namespace Go.AMA
open Go.AM
theorem uq_iff {limit : Int} {a : Int × Int} (ha : a ∈ sumP limit) : uq vprod (sumP limit) a = true ↔ ∀ b, b ∈ sumP limit → b.1 * b.2 = a.1 * a.2 → b = a := by
  unfold uq
  rw [has_of_mem ha, Bool.and_true, Bool.not_eq_true', List.any_eq_false]
  have pa := sumP_prod ha
  constructor
  · intro h b hb he
    have := h b hb
    have pb := sumP_prod hb
    simp only [uqq, Bool.and_eq_true, Bool.not_eq_true', beq_iff_eq, not_and] at this
    cases hp : pe b a with
    | true => exact pe_iff.1 hp
    | false => exact (this hp (by rw [vprod_eq pa, vprod_eq pb]; exact he)).elim
  · intro h b hb hq
    simp only [uqq, Bool.and_eq_true, Bool.not_eq_true', beq_iff_eq] at hq
    have pb := sumP_prod hb
    rw [vprod_eq pa, vprod_eq pb] at hq
    have := h b hb hq.2
    subst this
    have h9 : pe b b = true := pe_iff.2 rfl
    rw [hq.1] at h9; cases h9
theorem sumRows_mem {limit x y : Int} {n : Nat} (h0 : 2 ≤ x) (h1 : x < n + 2) (h2 : x ≤ y) (h3 : x + y ≤ limit) : (x, y) ∈ sumRows limit n := by
  simp only [sumRows, List.mem_flatMap, List.mem_range]
  refine ⟨(x - 2).toNat, by omega, ?_⟩
  simp only [sumRow, List.mem_map, List.mem_range]
  refine ⟨(y - x).toNat, by omega, ?_⟩
  rw [show (((x - 2).toNat : Nat) : Int) + 2 = x by omega]
  congr 1; omega
theorem mem_sumP {limit x y : Int} (hl : 4 ≤ limit ∧ limit ≤ 100) (h0 : 2 ≤ x) (h2 : x ≤ y) (h3 : x + y ≤ limit) : (x, y) ∈ sumP limit := by
  unfold sumP; rw [if_pos hl]
  exact sumRows_mem h0 (by omega) h2 h3
/-- only one pair has this product, by its divisors -/
def uqD (limit : Nat) (p : Int × Int) : Bool := (List.range 49).all fun i => (i + 2 == p.1.toNat) || !((p.1.toNat * p.2.toNat) % (i + 2) == 0 && (decide (i + 2 ≤ (p.1.toNat * p.2.toNat) / (i + 2)) && decide (i + 2 + (p.1.toNat * p.2.toNat) / (i + 2) ≤ limit)))
theorem uqD_eq {limit : Nat} (hl : 4 ≤ limit ∧ limit ≤ 100) {a : Int × Int} (ha : a ∈ sumP limit) : uq vprod (sumP limit) a = uqD limit a := by
  rw [Bool.eq_iff_iff, uq_iff ha]
  obtain ⟨a1, a2, a3, a4⟩ := sumP_mem ha
  obtain ⟨u, v⟩ := a
  simp only at a1 a2 a3
  obtain ⟨m, rfl⟩ : ∃ m : Nat, u = m := ⟨u.toNat, by omega⟩
  obtain ⟨n, rfl⟩ : ∃ n : Nat, v = n := ⟨v.toNat, by omega⟩
  unfold uqD
  rw [List.all_eq_true]
  simp only [List.mem_range, Bool.or_eq_true, beq_iff_eq, Bool.not_eq_true', Int.toNat_natCast]
  constructor
  · intro h i hi
    by_cases e : i + 2 = m
    · exact .inl e
    · right
      cases hh : ((m * n) % (i + 2) == 0 && (decide (i + 2 ≤ m * n / (i + 2)) && decide (i + 2 + m * n / (i + 2) ≤ limit))) with
      | false => rfl
      | true =>
        simp only [Bool.and_eq_true, beq_iff_eq, decide_eq_true_eq] at hh
        obtain ⟨h1, h2, h3⟩ := hh
        have hd : (i + 2) * (m * n / (i + 2)) = m * n := Nat.mul_div_cancel' (Nat.dvd_of_mod_eq_zero h1)
        have := h (((i + 2 : Nat) : Int), ((m * n / (i + 2) : Nat) : Int)) (mem_sumP (by omega) (by omega) (by omega) (by omega)) (by
          show ((i + 2 : Nat) : Int) * ((m * n / (i + 2) : Nat) : Int) = (m : Int) * n
          rw [← Int.natCast_mul, hd, Int.natCast_mul])
        have h4 := congrArg Prod.fst this
        simp only at h4
        exact (e (by omega)).elim
  · intro h b hb he
    obtain ⟨b1, b2, b3, b4⟩ := sumP_mem hb
    obtain ⟨x, y⟩ := b
    simp only at b1 b2 b3 he
    obtain ⟨r, rfl⟩ : ∃ r : Nat, x = r := ⟨x.toNat, by omega⟩
    obtain ⟨t, rfl⟩ : ∃ t : Nat, y = t := ⟨y.toNat, by omega⟩
    have hp : r * t = m * n := by rw [← Int.natCast_mul, ← Int.natCast_mul] at he; exact Int.ofNat.inj he
    have hr : 0 < r := by omega
    have hdiv : m * n / r = t := by rw [← hp, Nat.mul_div_cancel_left _ hr]
    have h1 := h (r - 2) (by omega)
    rw [show r - 2 + 2 = r by omega] at h1
    have hrm : r = m := by
      rcases h1 with h1 | h1
      · exact h1
      · have h5 : ((m * n) % r == 0 && (decide (r ≤ m * n / r) && decide (r + m * n / r ≤ limit))) = true := by
          simp only [Bool.and_eq_true, beq_iff_eq, decide_eq_true_eq]
          refine ⟨by rw [← hp, Nat.mul_mod_right], ?_⟩
          rw [hdiv]
          omega
        rw [h5] at h1; cases h1
    subst hrm
    have : t = n := Nat.eq_of_mul_eq_mul_left hr hp
    rw [this]
/-- the sums of pairs that are known at once -/
def badL (limit : Nat) : List Nat := (List.range 101).filter fun s => ((sumP limit).filter (uqD limit)).any fun p => (p.1 + p.2).toNat == s
theorem knew_badL (limit : Nat) (hl : 4 ≤ limit ∧ limit ≤ 100) : knew (sumP limit) = (sumP limit).filter fun p => !((badL limit).contains (p.1 + p.2).toNat) := by
  unfold knew
  refine List.filter_congr (fun p hp => ?_)
  congr 1
  obtain ⟨p1, p2, p3, p4⟩ := sumP_mem hp
  rw [Bool.eq_iff_iff, List.any_eq_true, List.contains_iff_mem]
  unfold badL
  simp only [List.mem_filter, List.mem_range, List.any_eq_true, beq_iff_eq]
  constructor
  · rintro ⟨a, ha, hk⟩
    unfold kk at hk
    rw [Bool.and_eq_true, beq_iff_eq, vsum_eq ha, vsum_eq hp, uqD_eq hl ha] at hk
    exact ⟨by omega, a, ⟨ha, hk.2⟩, by rw [hk.1]⟩
  · rintro ⟨_, a, ⟨ha, hu⟩, he⟩
    obtain ⟨q1, q2, _⟩ := sumP_mem ha
    refine ⟨a, ha, ?_⟩
    unfold kk
    rw [Bool.and_eq_true, beq_iff_eq, vsum_eq ha, vsum_eq hp, uqD_eq hl ha]
    exact ⟨by omega, hu⟩
set_option maxRecDepth 100000

def bad65 : List Nat := [4, 5, 6, 7, 8, 9, 10, 12, 13, 14, 15, 16, 18, 19, 20, 21, 22, 24, 25, 26, 28, 30, 31, 32, 33, 34, 36, 38, 39, 40, 41, 42, 43, 44, 45, 46, 47, 48, 49, 50, 51, 52, 53, 54, 55, 56, 57, 58, 59, 60, 61, 62, 63, 64, 65]
def kn65 : List (Int × Int) := [(2, 9), (2, 15), (2, 21), (2, 25), (2, 27), (2, 33), (2, 35), (3, 8), (3, 14), (3, 20), (3, 24), (3, 26), (3, 32), (3, 34), (4, 7), (4, 13), (4, 19), (4, 23), (4, 25), (4, 31), (4, 33), (5, 6), (5, 12), (5, 18), (5, 22), (5, 24), (5, 30), (5, 32), (6, 11), (6, 17), (6, 21), (6, 23), (6, 29), (6, 31), (7, 10), (7, 16), (7, 20), (7, 22), (7, 28), (7, 30), (8, 9), (8, 15), (8, 19), (8, 21), (8, 27), (8, 29), (9, 14), (9, 18), (9, 20), (9, 26), (9, 28), (10, 13), (10, 17), (10, 19), (10, 25), (10, 27), (11, 12), (11, 16), (11, 18), (11, 24), (11, 26), (12, 15), (12, 17), (12, 23), (12, 25), (13, 14), (13, 16), (13, 22), (13, 24), (14, 15), (14, 21), (14, 23), (15, 20), (15, 22), (16, 19), (16, 21), (17, 18), (17, 20), (18, 19)]
def np65 : List (Int × Int) := [(2, 9), (2, 25), (2, 27), (3, 8), (3, 26), (3, 32), (4, 7), (4, 13), (4, 19), (4, 23), (4, 25), (4, 31), (5, 18), (5, 22), (5, 30), (5, 32), (6, 23), (6, 29), (6, 31), (7, 16), (7, 20), (7, 22), (7, 28), (8, 19), (8, 21), (8, 27), (8, 29), (9, 18), (9, 26), (9, 28), (10, 13), (10, 17), (10, 19), (10, 25), (10, 27), (11, 16), (11, 18), (11, 24), (12, 17), (12, 23), (13, 14), (13, 16), (13, 24), (14, 21), (14, 23), (15, 22), (16, 19), (16, 21), (17, 18), (17, 20), (18, 19)]
theorem bad65_eq : badL 65 = bad65 := by decide +kernel
theorem kn65_eq : ((sumP 65).filter fun p => !(bad65.contains (p.1 + p.2).toNat)) = kn65 := by decide +kernel
theorem np65_eq : (kn65.filter (uq vprod kn65)) = np65 := by decide +kernel
theorem ns65_eq : (np65.filter (uq vsum np65)).length = 1 := by decide +kernel
theorem puzz65 : ((puzz 65).length : Int) = 1 := by
  have e : knew (sumP 65) = (sumP 65).filter fun p => !((badL 65).contains (p.1 + p.2).toNat) := knew_badL 65 (by decide)
  have h1 : knew (sumP 65) = kn65 := by rw [e, bad65_eq, kn65_eq]
  unfold puzz
  rw [h1, np65_eq, ns65_eq]
  rfl

def bad64 : List Nat := [4, 5, 6, 7, 8, 9, 10, 12, 13, 14, 15, 16, 18, 19, 20, 21, 22, 24, 25, 26, 28, 30, 31, 32, 33, 34, 36, 37, 38, 39, 40, 41, 42, 43, 44, 45, 46, 47, 48, 49, 50, 51, 52, 53, 54, 55, 56, 57, 58, 59, 60, 61, 62, 63, 64]
def kn64 : List (Int × Int) := [(2, 9), (2, 15), (2, 21), (2, 25), (2, 27), (2, 33), (3, 8), (3, 14), (3, 20), (3, 24), (3, 26), (3, 32), (4, 7), (4, 13), (4, 19), (4, 23), (4, 25), (4, 31), (5, 6), (5, 12), (5, 18), (5, 22), (5, 24), (5, 30), (6, 11), (6, 17), (6, 21), (6, 23), (6, 29), (7, 10), (7, 16), (7, 20), (7, 22), (7, 28), (8, 9), (8, 15), (8, 19), (8, 21), (8, 27), (9, 14), (9, 18), (9, 20), (9, 26), (10, 13), (10, 17), (10, 19), (10, 25), (11, 12), (11, 16), (11, 18), (11, 24), (12, 15), (12, 17), (12, 23), (13, 14), (13, 16), (13, 22), (14, 15), (14, 21), (15, 20), (16, 19), (17, 18)]
def np64 : List (Int × Int) := [(2, 9), (2, 25), (2, 27), (3, 8), (3, 26), (3, 32), (4, 7), (4, 13), (4, 19), (4, 23), (4, 25), (4, 31), (5, 18), (5, 22), (5, 30), (6, 17), (6, 23), (6, 29), (7, 10), (7, 16), (7, 20), (7, 22), (7, 28), (8, 19), (8, 21), (8, 27), (9, 18), (9, 26), (10, 13), (10, 17), (10, 19), (10, 25), (11, 12), (11, 16), (11, 18), (11, 24), (12, 17), (12, 23), (13, 14), (13, 16), (13, 22), (14, 15), (14, 21), (15, 20), (16, 19), (17, 18)]
theorem bad64_eq : badL 64 = bad64 := by decide +kernel
theorem kn64_eq : ((sumP 64).filter fun p => !(bad64.contains (p.1 + p.2).toNat)) = kn64 := by decide +kernel
theorem np64_eq : (kn64.filter (uq vprod kn64)) = np64 := by decide +kernel
theorem ns64_eq : (np64.filter (uq vsum np64)).length = 0 := by decide +kernel
theorem puzz64 : ((puzz 64).length : Int) = 0 := by
  have e : knew (sumP 64) = (sumP 64).filter fun p => !((badL 64).contains (p.1 + p.2).toNat) := knew_badL 64 (by decide)
  have h1 : knew (sumP 64) = kn64 := by rw [e, bad64_eq, kn64_eq]
  unfold puzz
  rw [h1, np64_eq, ns64_eq]
  rfl

abbrev sK (limit : Int) : List (Int × Int) := knew (sumP limit)
abbrev sN (limit : Int) : List (Int × Int) := (sK limit).filter (uq vprod (sK limit))
def sumsOk (limit : Int) : Bool := decide (0 < (sumP limit).length) && (List.range (sumP limit).length).all fun i => i == 0 || decide (((sumP limit).getD (i - 1) default).1 ≤ ((sumP limit).getD i default).1)
theorem sums_all : ((List.range 17).all fun i => sumsOk (4 + (i : Int))) = true := by decide +kernel
def limF (bs : List Int) : Int := 4 + (numF bs 1).tmod 17
theorem lim_range (bs : List Int) : 4 ≤ limF bs ∧ limF bs ≤ 20 := by
  have := tmod_range (b := numF bs 1) (n := 17) (numF_range bs 1).1 (by omega)
  unfold limF; omega
theorem sums_ok {limit : Int} (h : 4 ≤ limit ∧ limit ≤ 20) : 0 < (sumP limit).length ∧ ∀ x : Int, 0 < x → x < (sumP limit).length → ((sumP limit).getD (x - 1).toNat default).1 ≤ ((sumP limit).getD x.toNat default).1 := by
  have := List.all_eq_true.1 sums_all (limit - 4).toNat (by rw [List.mem_range]; omega)
  rw [show 4 + (((limit - 4).toNat : Nat) : Int) = limit by omega] at this
  simp only [sumsOk, Bool.and_eq_true, decide_eq_true_eq] at this
  refine ⟨this.1, fun x h0 h1 => ?_⟩
  have h2 := List.all_eq_true.1 this.2 x.toNat (by rw [List.mem_range]; omega)
  simp only [Bool.or_eq_true, beq_iff_eq, decide_eq_true_eq] at h2
  rw [show (x - 1).toNat = x.toNat - 1 by omega]
  rcases h2 with h2 | h2
  · omega
  · exact h2
theorem nt2 {z : Bool} (h : (!z) = true) : z = false := by cases z; rfl; cases h
theorem knew_not {l : List (Int × Int)} {x : Int × Int} (h : x ∈ knew l) : uq vprod l x = false := by
  unfold knew at h
  obtain ⟨h1, h2⟩ := List.mem_filter.1 h
  have h3 := List.any_eq_false.1 (nt2 h2) x h1
  unfold kk at h3
  simpa using h3

set_option maxRecDepth 20000 in
set_option maxHeartbeats 4000000 in
theorem law10 (bs : List Int) (hb0 : bs.length ≤ maxLen) : AFn P 10 [lY bs] (.i (cb true)) [] := by
  refine AFn.of_body Tok 154 Go.Proofs.Try.func10 rfl rfl rfl (by simp) rfl ?_
  rintro ⟨_, _, w0, I0, O0, X0, fx⟩ rfl rfl hT hfx
  refine AWp.seq ?_
  refine AWp.region ?_
  refine AOps.run hT true rfl ?_ ?_
  · repeat' (first | exact trivial | exact Bool.not_or_self _ | refine And.intro ?_ ?_ | (simp; done) | (simp_all; done) | (simp [inR_i64] at *; omega) | decide)
  refine AOps.nil ?_
  repeat (with_reducible first | refine thenNil ?_ | refine blockNil ?_)
  refine AWp.seq ?_
  refine AWp.seq ?_
  refine AWp.region ?_
  refine AOps.run hT true rfl ?_ ?_
  · repeat' (first | exact trivial | exact Bool.not_or_self _ | refine And.intro ?_ ?_ | (simp; done) | (simp_all; done) | (simp [inR_i64] at *; omega) | decide)
  refine AOps.nil ?_
  repeat (with_reducible first | refine thenNil ?_ | refine blockNil ?_)
  refine AWp.cond rfl ?_ (fun hc0 => ?_) (fun hc0 => ?_)
  · repeat' (first | exact trivial | exact Bool.not_or_self _ | refine And.intro ?_ ?_ | (simp; done) | (simp_all; done) | (simp [inR_i64] at *; omega) | decide)
  · try simp only [decide_eq_true_eq, decide_eq_false_iff_not] at hc0
    refine AWp.seq ?_
    skip
    refine AWp.region ?_
    refine AOps.run hT true rfl ?_ ?_
    · repeat' (first | exact trivial | exact Bool.not_or_self _ | refine And.intro ?_ ?_ | (simp; done) | (simp_all; done) | (simp [inR_i64] at *; omega) | decide)
    refine AOps.nil ?_
    repeat (with_reducible first | refine thenNil ?_ | refine blockNil ?_)
    refine AWp.ret ?_
    repeat (with_reducible first | refine thenRet ?_ | refine blockRet ?_)
    refine EndsIn.ret rfl ?_ ?_
    · repeat' (first | exact trivial | exact Bool.not_or_self _ | refine And.intro ?_ ?_ | (simp; done) | (simp_all; done) | (simp [inR_i64] at *; omega) | decide)
    refine ⟨[], ?_, rfl, rfl, rfl⟩
    rfl
  · try simp only [decide_eq_true_eq, decide_eq_false_iff_not] at hc0
    refine AWp.skip ?_
    repeat (with_reducible first | refine thenNil ?_ | refine blockNil ?_)
    refine AWp.seq ?_
    have hb : bs.length ≤ 1048576 := by omega
    have hR := lim_range bs
    have hN := numF_range bs 1
    have hTm := tmod_range (b := numF bs 1) (n := 17) hN.1 (by omega)
    have hm : i64 (limF bs) := by constructor <;> omega
    have hL := sumP_len (limF bs)
    have hK : (sK (limF bs)).length ≤ 1048576 := filter_len hL
    have hNl : (sN (limF bs)).length ≤ 1048576 := filter_len hK
    have hS := puzz_len (limF bs)
    have hK2 : (sK (limF bs)).length ≤ (sumP (limF bs)).length := List.length_filter_le _ _
    have hN2 : (sN (limF bs)).length ≤ (sK (limF bs)).length := List.length_filter_le _ _
    have hS2 : (puzz (limF bs)).length ≤ (sN (limF bs)).length := List.length_filter_le _ _
    obtain ⟨hnz, hsort⟩ := sums_ok hR
    refine AWp.region ?_
    refine AOps.run hT true rfl ?_ ?_
    · repeat' (first | exact trivial | exact Bool.not_or_self _ | refine And.intro ?_ ?_ | (simp; done) | (simp_all; done) | (simp [inR_i64] at *; omega) | decide)
    refine AOps.callF (T := T) rfl rfl rfl rfl rfl ?_ (MakeNum_fn bs 1 hb (by decide)) (.inr rfl) rfl ?_
    · repeat' (first | exact trivial | exact Bool.not_or_self _ | refine And.intro ?_ ?_ | (simp; done) | (simp_all; done) | (simp [inR_i64] at *; omega) | decide)
    refine AOps.run hT true rfl ?_ ?_
    · repeat' (first | exact trivial | exact Bool.not_or_self _ | refine And.intro ?_ ?_ | (simp; done) | (simp_all; done) | (simp [inR_i64] at *; omega) | decide)
    refine AOps.nil ?_
    repeat (with_reducible first | refine thenNil ?_ | refine blockNil ?_)
    refine AWp.seq ?_
    refine AWp.region ?_
    refine AOps.run hT true rfl ?_ ?_
    · repeat' (first | exact trivial | exact Bool.not_or_self _ | refine And.intro ?_ ?_ | (simp; done) | (simp_all; done) | (simp [inR_i64] at *; omega) | decide)
    refine AOps.callF (T := T) rfl rfl rfl rfl rfl ?_ (AFn.freeze1 (SumPairs_fn (limF bs) hm)) (.inr rfl) rfl ?_
    · repeat' (first | exact trivial | exact Bool.not_or_self _ | refine And.intro ?_ ?_ | (simp; done) | (simp_all; done) | (simp [inR_i64] at *; omega) | decide)
    refine AOps.run hT true rfl ?_ ?_
    · repeat' (first | exact trivial | exact Bool.not_or_self _ | refine And.intro ?_ ?_ | (simp; done) | (simp_all; done) | (simp [inR_i64] at *; omega) | decide)
    refine AOps.nil ?_
    repeat (with_reducible first | refine thenNil ?_ | refine blockNil ?_)
    refine AWp.seq ?_
    refine AWp.region ?_
    refine AOps.run hT true rfl ?_ ?_
    · repeat' (first | exact trivial | exact Bool.not_or_self _ | refine And.intro ?_ ?_ | (simp; done) | (simp_all; done) | (simp [inR_i64] at *; omega) | decide)
    refine AOps.callF (T := T) rfl rfl rfl rfl rfl ?_ (AFn.freeze1 (KnewIt_fn (sumP (limF bs)) hL)) (.inr rfl) rfl ?_
    · repeat' (first | exact trivial | exact Bool.not_or_self _ | refine And.intro ?_ ?_ | (simp; done) | (simp_all; done) | (simp [inR_i64] at *; omega) | decide)
    refine AOps.run hT true rfl ?_ ?_
    · repeat' (first | exact trivial | exact Bool.not_or_self _ | refine And.intro ?_ ?_ | (simp; done) | (simp_all; done) | (simp [inR_i64] at *; omega) | decide)
    refine AOps.nil ?_
    repeat (with_reducible first | refine thenNil ?_ | refine blockNil ?_)
    refine AWp.seq ?_
    refine AWp.region ?_
    refine AOps.run hT true rfl ?_ ?_
    · repeat' (first | exact trivial | exact Bool.not_or_self _ | refine And.intro ?_ ?_ | (simp; done) | (simp_all; done) | (simp [inR_i64] at *; omega) | decide)
    refine AOps.callF (T := T) rfl rfl rfl rfl rfl ?_ (AFn.freeze1 (NowProduct_fn (sK (limF bs)) hK)) (.inr rfl) rfl ?_
    · repeat' (first | exact trivial | exact Bool.not_or_self _ | refine And.intro ?_ ?_ | (simp; done) | (simp_all; done) | (simp [inR_i64] at *; omega) | decide)
    refine AOps.run hT true rfl ?_ ?_
    · repeat' (first | exact trivial | exact Bool.not_or_self _ | refine And.intro ?_ ?_ | (simp; done) | (simp_all; done) | (simp [inR_i64] at *; omega) | decide)
    refine AOps.nil ?_
    repeat (with_reducible first | refine thenNil ?_ | refine blockNil ?_)
    refine AWp.seq ?_
    refine AWp.region ?_
    refine AOps.run hT true rfl ?_ ?_
    · repeat' (first | exact trivial | exact Bool.not_or_self _ | refine And.intro ?_ ?_ | (simp; done) | (simp_all; done) | (simp [inR_i64] at *; omega) | decide)
    refine AOps.callF (T := T) rfl rfl rfl rfl rfl ?_ (AFn.freeze1 (NowSum_fn (sN (limF bs)) hNl)) (.inr rfl) rfl ?_
    · repeat' (first | exact trivial | exact Bool.not_or_self _ | refine And.intro ?_ ?_ | (simp; done) | (simp_all; done) | (simp [inR_i64] at *; omega) | decide)
    refine AOps.run hT true rfl ?_ ?_
    · repeat' (first | exact trivial | exact Bool.not_or_self _ | refine And.intro ?_ ?_ | (simp; done) | (simp_all; done) | (simp [inR_i64] at *; omega) | decide)
    refine AOps.nil ?_
    repeat (with_reducible first | refine thenNil ?_ | refine blockNil ?_)
    refine AWp.seq ?_
    refine AWp.region ?_
    refine AOps.run hT true rfl ?_ ?_
    · repeat' (first | exact trivial | exact Bool.not_or_self _ | refine And.intro ?_ ?_ | (simp; done) | (simp_all; done) | (simp [inR_i64] at *; omega) | decide)
    refine AOps.callF (T := T) rfl rfl rfl rfl rfl ?_ (AFn.freeze1 (PuzzlePairs_fn (limF bs) hm)) (.inr rfl) rfl ?_
    · repeat' (first | exact trivial | exact Bool.not_or_self _ | refine And.intro ?_ ?_ | (simp; done) | (simp_all; done) | (simp [inR_i64] at *; omega) | decide)
    refine AOps.run hT true rfl ?_ ?_
    · repeat' (first | exact trivial | exact Bool.not_or_self _ | refine And.intro ?_ ?_ | (simp; done) | (simp_all; done) | (simp [inR_i64] at *; omega) | decide)
    refine AOps.nil ?_
    repeat (with_reducible first | refine thenNil ?_ | refine blockNil ?_)
    refine AWp.seq ?_
    refine AWp.seq ?_
    refine AWp.region ?_
    refine AOps.run hT true rfl ?_ ?_
    · repeat' (first | exact trivial | exact Bool.not_or_self _ | refine And.intro ?_ ?_ | (simp; done) | (simp_all; done) | (simp [inR_i64] at *; omega) | decide)
    refine AOps.nil ?_
    repeat (with_reducible first | refine thenNil ?_ | refine blockNil ?_)
    refine AWp.cond rfl ?_ (fun hc1 => ?_) (fun hc1 => ?_)
    · repeat' (first | exact trivial | exact Bool.not_or_self _ | refine And.intro ?_ ?_ | (simp; done) | (simp_all; done) | (simp [inR_i64] at *; omega) | decide)
    · exfalso; rw [show (((sumP (limF bs)).length : Int) == 0) = false by rw [beq_eq_false_iff_ne]; omega, show ((((puzz (limF bs)).length : Nat) : Int) != ((((sN (limF bs)).filter (uq vsum (sN (limF bs)))).length : Nat) : Int)) = false from bne_self_eq_false _, show (decide (((sK (limF bs)).length : Int) > (sumP (limF bs)).length)) = false from decide_eq_false (Int.not_lt.2 (Int.ofNat_le.2 hK2)), show (decide (((sN (limF bs)).length : Int) > (sK (limF bs)).length)) = false from decide_eq_false (Int.not_lt.2 (Int.ofNat_le.2 hN2)), show decide (((((sN (limF bs)).filter (uq vsum (sN (limF bs)))).length : Nat) : Int) > (((sN (limF bs)).length : Nat) : Int)) = false from decide_eq_false (Int.not_lt.2 (Int.ofNat_le.2 hS2))] at hc1; exact absurd hc1 (by decide)
    · try simp only [decide_eq_true_eq, decide_eq_false_iff_not] at hc1
      refine AWp.skip ?_
      repeat (with_reducible first | refine thenNil ?_ | refine blockNil ?_)
      refine AWp.seq ?_
      refine AWp.seq ?_
      refine AWp.region ?_
      refine AOps.run hT true rfl ?_ ?_
      · repeat' (first | exact trivial | exact Bool.not_or_self _ | refine And.intro ?_ ?_ | (simp; done) | (simp_all; done) | (simp [inR_i64] at *; omega) | decide)
      refine AOps.nil ?_
      repeat (with_reducible first | refine thenNil ?_ | refine blockNil ?_)
      refine AWp.block ?_
      refine AWp.loopS (σ := Int) (fun x => ((puzz (limF bs)).length - x).toNat) (fun x => [(3, .i (ci (limF bs))), (4, .i (lP (sumP (limF bs)))), (5, .i (lP (sK (limF bs)))), (6, .i (lP (sN (limF bs)))), (8, .i (lP (puzz (limF bs)))), (63, .i (lP (puzz (limF bs)))), (64, .i (ci (puzz (limF bs)).length)), (65, .i (ci x))]) (fun _ => []) (fun x => 0 ≤ x ∧ x ≤ (puzz (limF bs)).length) (0) ?_ ?_ ?_
      · refine ⟨?_, ?_, rfl, rfl, fun k hk => Nat.lt_of_lt_of_le (hfx k hk) (Nat.le_of_ble_eq_true rfl)⟩
        · repeat' (first | exact Sub.nil | exact rfl | refine Sub.cons ?_ ?_)
        · repeat' (first | exact HTr.nil | exact objEq_refl _ | exact objEq_app1 | exact objEq_nil | exact objEq_mapP | exact objEq_mapI |  exact objEq_set (by first | omega | (simp; omega)) | exact objEq_appS (by simp) (appF_S rfl (fun _ _ => rfl)) | refine HTr.cons ?_ ?_ | refine HTr.dead rfl ?_)
      · exact ⟨by omega, by omega⟩
      rintro x ⟨h0, h1⟩
      refine AWp.seq ?_
      refine AWp.region ?_
      refine AOps.run hT true rfl ?_ ?_
      · repeat' (first | exact trivial | exact Bool.not_or_self _ | refine And.intro ?_ ?_ | (simp; done) | (simp_all; done) | (simp [inR_i64] at *; omega) | decide)
      refine AOps.nil ?_
      repeat (with_reducible first | refine thenNil ?_ | refine blockNil ?_)
      refine AWp.seq ?_
      refine AWp.cond rfl ?_ (fun hc2 => ?_) (fun hc2 => ?_)
      · repeat' (first | exact trivial | exact Bool.not_or_self _ | refine And.intro ?_ ?_ | (simp; done) | (simp_all; done) | (simp [inR_i64] at *; omega) | decide)
      · try simp only [decide_eq_true_eq, decide_eq_false_iff_not] at hc2
        refine AWp.skip ?_
        repeat (with_reducible first | refine thenNil ?_ | refine blockNil ?_)
        refine AWp.seq ?_
        refine AWp.block ?_
        refine AWp.seq ?_
        refine AWp.region ?_
        refine AOps.run hT true rfl ?_ ?_
        · repeat' (first | exact trivial | exact Bool.not_or_self _ | refine And.intro ?_ ?_ | (simp; done) | (simp_all; done) | (simp [inR_i64] at *; omega) | decide)
        refine AOps.nil ?_
        repeat (with_reducible first | refine thenNil ?_ | refine blockNil ?_)
        refine AWp.seq ?_
        have m1 := List.mem_filter.1 (mem_take (l := (puzz (limF bs))) h0 hc2)
        have m2 := List.mem_filter.1 m1.1
        have f1 : uq vsum (sN (limF bs)) ((puzz (limF bs)).getD x.toNat default) = true := m1.2
        have f2 : uq vprod (sK (limF bs)) ((puzz (limF bs)).getD x.toNat default) = true := m2.2
        have f3 : uq vprod (sumP (limF bs)) ((puzz (limF bs)).getD x.toNat default) = false := knew_not m2.1
        refine AWp.regionAny mixed [[], [], [0, 1], [0, 1, 2], [], [0, 1, 2, 3, 4], [0, 1, 2, 3, 4, 5], [0, 1, 2, 3, 4, 5, 6], [0, 1, 2, 3, 4, 5, 6], [0, 1, 2, 3, 4, 5, 6, 7, 8], [0, 1, 2, 3, 4, 5, 6, 7, 8, 9], [0, 1, 2, 3, 4, 5, 6, 7, 8, 9, 10], [0, 1, 2, 3, 4, 5, 6, 7, 8, 9, 10, 11], [0, 1, 2, 3, 4, 5, 6, 7, 8, 9, 10, 11, 12], [0, 1, 2, 3, 4, 5, 6, 7, 8, 9, 10, 11, 12], [0, 1, 2, 3, 4, 5, 6, 7, 8, 9, 10, 11, 12, 13, 14], [0, 1, 2, 3, 4, 5, 6, 7, 8, 9, 10, 11, 12, 13, 14, 15], [0, 1, 2, 3, 4, 5, 6, 7, 8, 9, 10, 11, 12, 13, 14, 15, 16], [0, 1, 2, 3, 4, 5, 6, 7, 8, 9, 10, 11, 12, 13, 14, 15, 16, 17], [0, 1, 2, 3, 4, 5, 6, 7, 8, 9, 10, 11, 12, 13, 14, 15, 16, 17, 18], [0, 1, 2, 3, 4, 5, 6, 7, 8, 9, 10, 11, 12, 13, 14, 15, 16, 17, 18], [0, 1, 2, 3, 4, 5, 6, 7, 8, 9, 10, 11, 12, 13, 14, 15, 16, 17, 18, 19, 20], [0, 1, 2, 3, 4, 5, 6, 7, 8, 9, 10, 11, 12, 13, 14, 15, 16, 17, 18, 19, 20, 21]] [] [_, _, _, _, _, _, _, _, _, _, _, _, _, _, _, _, _, _, _, _, _, _, _] [_] rfl (by decide) rfl ⟨⟨OpStep.of_astep hT (nw := true) rfl ⟨_, rfl, rfl⟩ ?_, trivial⟩, ⟨OpStep.of_astep hT (nw := true) rfl ⟨_, rfl, rfl⟩ ?_, trivial⟩, ⟨OpStep.of_astep hT (nw := true) rfl ⟨_, rfl, rfl⟩ ?_, trivial⟩, ⟨OpStep.of_astep hT (nw := true) rfl ⟨_, rfl, rfl⟩ ?_, trivial⟩, ⟨OpStep.of_astep hT (nw := true) rfl ⟨_, rfl, rfl⟩ ?_, trivial⟩, ⟨OpStep.of_astep hT (nw := true) rfl ⟨_, rfl, rfl⟩ ?_, trivial⟩, ⟨OpStep.of_astep hT (nw := true) rfl ⟨_, rfl, rfl⟩ ?_, trivial⟩, ⟨OpStep.of_astep hT (nw := true) rfl ⟨_, rfl, rfl⟩ ?_, trivial⟩, ⟨OpStep.of_astep hT (nw := true) rfl ⟨_, rfl, rfl⟩ ?_, trivial⟩, ⟨OpStep.of_callG (T := T) rfl rfl rfl rfl rfl (fun hg => ?_) (fun hg => UniqueSum_fn (sN (limF bs)) ((puzz (limF bs)).getD x.toNat default) hNl) (.inl (by repeat' (first | exact trivial | refine And.intro ?_ ?_ | intro _))) rfl, trivial⟩, ⟨OpStep.of_astep hT (nw := true) rfl ⟨_, rfl, rfl⟩ ?_, trivial⟩, ⟨OpStep.of_astep hT (nw := true) rfl ⟨_, rfl, rfl⟩ ?_, trivial⟩, ⟨OpStep.of_astep hT (nw := true) rfl ⟨_, rfl, rfl⟩ ?_, trivial⟩, ⟨OpStep.of_astep hT (nw := true) rfl ⟨_, rfl, rfl⟩ ?_, trivial⟩, ⟨OpStep.of_astep hT (nw := true) rfl ⟨_, rfl, rfl⟩ ?_, trivial⟩, ⟨OpStep.of_callG (T := T) rfl rfl rfl rfl rfl (fun hg => ?_) (fun hg => UniqueProduct_fn (sK (limF bs)) ((puzz (limF bs)).getD x.toNat default) hK) (.inl (by repeat' (first | exact trivial | refine And.intro ?_ ?_ | intro _))) rfl, trivial⟩, ⟨OpStep.of_astep hT (nw := true) rfl ⟨_, rfl, rfl⟩ ?_, trivial⟩, ⟨OpStep.of_astep hT (nw := true) rfl ⟨_, rfl, rfl⟩ ?_, trivial⟩, ⟨OpStep.of_astep hT (nw := true) rfl ⟨_, rfl, rfl⟩ ?_, trivial⟩, ⟨OpStep.of_astep hT (nw := true) rfl ⟨_, rfl, rfl⟩ ?_, trivial⟩, ⟨OpStep.of_astep hT (nw := true) rfl ⟨_, rfl, rfl⟩ ?_, trivial⟩, ⟨OpStep.of_callG (T := T) rfl rfl rfl rfl rfl (fun hg => ?_) (fun hg => UniqueProduct_fn (sumP (limF bs)) ((puzz (limF bs)).getD x.toNat default) hL) (.inl (by repeat' (first | exact trivial | refine And.intro ?_ ?_ | intro _))) rfl, trivial⟩, ⟨OpStep.of_astep hT (nw := true) rfl ⟨_, rfl, rfl⟩ ?_, trivial⟩, trivial⟩ ?_
        · repeat' (first | exact trivial | exact Bool.not_or_self _ | refine And.intro ?_ ?_ | (simp; done) | (simp_all; done) | (simp [inR_i64] at *; omega) | decide)
        · repeat' (first | exact trivial | exact Bool.not_or_self _ | refine And.intro ?_ ?_ | (simp; done) | (simp_all; done) | (simp [inR_i64] at *; omega) | decide)
        · repeat' (first | exact trivial | exact Bool.not_or_self _ | refine And.intro ?_ ?_ | (simp; done) | (simp_all; done) | (simp [inR_i64] at *; omega) | decide)
        · repeat' (first | exact trivial | exact Bool.not_or_self _ | refine And.intro ?_ ?_ | (simp; done) | (simp_all; done) | (simp [inR_i64] at *; omega) | decide)
        · repeat' (first | exact trivial | exact Bool.not_or_self _ | refine And.intro ?_ ?_ | (simp; done) | (simp_all; done) | (simp [inR_i64] at *; omega) | decide)
        · repeat' (first | exact trivial | exact Bool.not_or_self _ | refine And.intro ?_ ?_ | (simp; done) | (simp_all; done) | (simp [inR_i64] at *; omega) | decide)
        · repeat' (first | exact trivial | exact Bool.not_or_self _ | refine And.intro ?_ ?_ | (simp; done) | (simp_all; done) | (simp [inR_i64] at *; omega) | decide)
        · repeat' (first | exact trivial | exact Bool.not_or_self _ | refine And.intro ?_ ?_ | (simp; done) | (simp_all; done) | (simp [inR_i64] at *; omega) | decide)
        · repeat' (first | exact trivial | exact Bool.not_or_self _ | refine And.intro ?_ ?_ | (simp; done) | (simp_all; done) | (simp [inR_i64] at *; omega) | decide)
        · repeat' (first | exact trivial | exact Bool.not_or_self _ | refine And.intro ?_ ?_ | (simp; done) | (simp_all; done) | (simp [inR_i64] at *; omega) | decide)
        · repeat' (first | exact trivial | exact Bool.not_or_self _ | refine And.intro ?_ ?_ | (simp; done) | (simp_all; done) | (simp [inR_i64] at *; omega) | decide)
        · repeat' (first | exact trivial | exact Bool.not_or_self _ | refine And.intro ?_ ?_ | (simp; done) | (simp_all; done) | (simp [inR_i64] at *; omega) | decide)
        · repeat' (first | exact trivial | exact Bool.not_or_self _ | refine And.intro ?_ ?_ | (simp; done) | (simp_all; done) | (simp [inR_i64] at *; omega) | decide)
        · repeat' (first | exact trivial | exact Bool.not_or_self _ | refine And.intro ?_ ?_ | (simp; done) | (simp_all; done) | (simp [inR_i64] at *; omega) | decide)
        · repeat' (first | exact trivial | exact Bool.not_or_self _ | refine And.intro ?_ ?_ | (simp; done) | (simp_all; done) | (simp [inR_i64] at *; omega) | decide)
        · repeat' (first | exact trivial | exact Bool.not_or_self _ | refine And.intro ?_ ?_ | (simp; done) | (simp_all; done) | (simp [inR_i64] at *; omega) | decide)
        · repeat' (first | exact trivial | exact Bool.not_or_self _ | refine And.intro ?_ ?_ | (simp; done) | (simp_all; done) | (simp [inR_i64] at *; omega) | decide)
        · repeat' (first | exact trivial | exact Bool.not_or_self _ | refine And.intro ?_ ?_ | (simp; done) | (simp_all; done) | (simp [inR_i64] at *; omega) | decide)
        · repeat' (first | exact trivial | exact Bool.not_or_self _ | refine And.intro ?_ ?_ | (simp; done) | (simp_all; done) | (simp [inR_i64] at *; omega) | decide)
        · repeat' (first | exact trivial | exact Bool.not_or_self _ | refine And.intro ?_ ?_ | (simp; done) | (simp_all; done) | (simp [inR_i64] at *; omega) | decide)
        · repeat' (first | exact trivial | exact Bool.not_or_self _ | refine And.intro ?_ ?_ | (simp; done) | (simp_all; done) | (simp [inR_i64] at *; omega) | decide)
        · repeat' (first | exact trivial | exact Bool.not_or_self _ | refine And.intro ?_ ?_ | (simp; done) | (simp_all; done) | (simp [inR_i64] at *; omega) | decide)
        · repeat' (first | exact trivial | exact Bool.not_or_self _ | refine And.intro ?_ ?_ | (simp; done) | (simp_all; done) | (simp [inR_i64] at *; omega) | decide)
        repeat (with_reducible first | refine thenNil ?_ | refine blockNil ?_)
        refine AWp.cond rfl ?_ (fun hc3 => ?_) (fun hc3 => ?_)
        · repeat' (first | exact trivial | exact Bool.not_or_self _ | refine And.intro ?_ ?_ | (simp; done) | (simp_all; done) | (simp [inR_i64] at *; omega) | decide)
        · rw [f1, f2, f3] at hc3; simp at hc3
        · try simp only [decide_eq_true_eq, decide_eq_false_iff_not] at hc3
          refine AWp.skip ?_
          repeat (with_reducible first | refine thenNil ?_ | refine blockNil ?_)
          refine AWp.region ?_
          refine AOps.run hT true rfl ?_ ?_
          · repeat' (first | exact trivial | exact Bool.not_or_self _ | refine And.intro ?_ ?_ | (simp; done) | (simp_all; done) | (simp [inR_i64] at *; omega) | decide)
          refine AOps.nil ?_
          repeat (with_reducible first | refine thenNil ?_ | refine blockNil ?_)
          refine Exists.intro (x + 1) (And.intro (And.intro ?_ ?_) ?_)
          · simp at *; omega
          · exact ⟨by omega, by omega⟩
          · refine ⟨?_, ?_, rfl, rfl, fun k hk => Nat.lt_of_lt_of_le (hfx k hk) (Nat.le_of_ble_eq_true rfl)⟩
            · repeat' (first | exact Sub.nil | exact rfl | refine Sub.cons ?_ ?_)
            · repeat' (first | exact HTr.nil | exact objEq_refl _ | exact objEq_app1 | exact objEq_nil | exact objEq_mapP | exact objEq_mapI |  exact objEq_set (by first | omega | (simp; omega)) | exact objEq_appS (by simp) (appF_S rfl (fun _ _ => rfl)) | refine HTr.cons ?_ ?_ | refine HTr.dead rfl ?_)
      · try simp only [decide_eq_true_eq, decide_eq_false_iff_not] at hc2
        refine AWp.exit ?_
        repeat (with_reducible first | refine thenExit ?_ | refine blockSame ?_ | refine blockOther rfl ?_ | refine thenNil ?_ | refine blockNil ?_)
        refine AWp.seq ?_
        refine AWp.seq ?_
        refine AWp.region ?_
        refine AOps.run hT true rfl ?_ ?_
        · repeat' (first | exact trivial | exact Bool.not_or_self _ | refine And.intro ?_ ?_ | (simp; done) | (simp_all; done) | (simp [inR_i64] at *; omega) | decide)
        refine AOps.nil ?_
        repeat (with_reducible first | refine thenNil ?_ | refine blockNil ?_)
        refine AWp.block ?_
        refine AWp.loopS (σ := Int) (fun x => ((sK (limF bs)).length - x).toNat) (fun x => [(3, .i (ci (limF bs))), (4, .i (lP (sumP (limF bs)))), (94, .i (lP (sK (limF bs)))), (95, .i (ci (sK (limF bs)).length)), (96, .i (ci x))]) (fun _ => []) (fun x => 0 ≤ x ∧ x ≤ (sK (limF bs)).length) (0) ?_ ?_ ?_
        · refine ⟨?_, ?_, rfl, rfl, fun k hk => Nat.lt_of_lt_of_le (hfx k hk) (Nat.le_of_ble_eq_true rfl)⟩
          · repeat' (first | exact Sub.nil | exact rfl | refine Sub.cons ?_ ?_)
          · repeat' (first | exact HTr.nil | exact objEq_refl _ | exact objEq_app1 | exact objEq_nil | exact objEq_mapP | exact objEq_mapI |  exact objEq_set (by first | omega | (simp; omega)) | exact objEq_appS (by simp) (appF_S rfl (fun _ _ => rfl)) | refine HTr.cons ?_ ?_ | refine HTr.dead rfl ?_)
        · exact ⟨by omega, by omega⟩
        rintro x ⟨h0, h1⟩
        refine AWp.seq ?_
        refine AWp.region ?_
        refine AOps.run hT true rfl ?_ ?_
        · repeat' (first | exact trivial | exact Bool.not_or_self _ | refine And.intro ?_ ?_ | (simp; done) | (simp_all; done) | (simp [inR_i64] at *; omega) | decide)
        refine AOps.nil ?_
        repeat (with_reducible first | refine thenNil ?_ | refine blockNil ?_)
        refine AWp.seq ?_
        refine AWp.cond rfl ?_ (fun hc4 => ?_) (fun hc4 => ?_)
        · repeat' (first | exact trivial | exact Bool.not_or_self _ | refine And.intro ?_ ?_ | (simp; done) | (simp_all; done) | (simp [inR_i64] at *; omega) | decide)
        · try simp only [decide_eq_true_eq, decide_eq_false_iff_not] at hc4
          refine AWp.skip ?_
          repeat (with_reducible first | refine thenNil ?_ | refine blockNil ?_)
          refine AWp.seq ?_
          refine AWp.block ?_
          refine AWp.seq ?_
          refine AWp.region ?_
          refine AOps.run hT true rfl ?_ ?_
          · repeat' (first | exact trivial | exact Bool.not_or_self _ | refine And.intro ?_ ?_ | (simp; done) | (simp_all; done) | (simp [inR_i64] at *; omega) | decide)
          refine AOps.nil ?_
          repeat (with_reducible first | refine thenNil ?_ | refine blockNil ?_)
          refine AWp.seq ?_
          have f4 : uq vprod (sumP (limF bs)) ((sK (limF bs)).getD x.toNat default) = false := knew_not (mem_take (l := (sK (limF bs))) h0 hc4)
          refine AWp.region ?_
          refine AOps.run hT true rfl ?_ ?_
          · repeat' (first | exact trivial | exact Bool.not_or_self _ | refine And.intro ?_ ?_ | (simp; done) | (simp_all; done) | (simp [inR_i64] at *; omega) | decide)
          refine AOps.callF (T := T) rfl rfl rfl rfl rfl ?_ (UniqueProduct_fn (sumP (limF bs)) ((sK (limF bs)).getD x.toNat default) hL) (.inl ⟨by repeat' (first | exact trivial | refine And.intro ?_ ?_ | intro _), by repeat' (first | exact trivial | refine And.intro ?_ ?_ | intro _)⟩) rfl ?_
          · repeat' (first | exact trivial | exact Bool.not_or_self _ | refine And.intro ?_ ?_ | (simp; done) | (simp_all; done) | (simp [inR_i64] at *; omega) | decide)
          refine AOps.nil ?_
          repeat (with_reducible first | refine thenNil ?_ | refine blockNil ?_)
          refine AWp.cond rfl ?_ (fun hc5 => ?_) (fun hc5 => ?_)
          · repeat' (first | exact trivial | exact Bool.not_or_self _ | refine And.intro ?_ ?_ | (simp; done) | (simp_all; done) | (simp [inR_i64] at *; omega) | decide)
          · rw [f4] at hc5; cases hc5
          · try simp only [decide_eq_true_eq, decide_eq_false_iff_not] at hc5
            refine AWp.skip ?_
            repeat (with_reducible first | refine thenNil ?_ | refine blockNil ?_)
            refine AWp.region ?_
            refine AOps.run hT true rfl ?_ ?_
            · repeat' (first | exact trivial | exact Bool.not_or_self _ | refine And.intro ?_ ?_ | (simp; done) | (simp_all; done) | (simp [inR_i64] at *; omega) | decide)
            refine AOps.nil ?_
            repeat (with_reducible first | refine thenNil ?_ | refine blockNil ?_)
            refine Exists.intro (x + 1) (And.intro (And.intro ?_ ?_) ?_)
            · simp at *; omega
            · exact ⟨by omega, by omega⟩
            · refine ⟨?_, ?_, rfl, rfl, fun k hk => Nat.lt_of_lt_of_le (hfx k hk) (Nat.le_of_ble_eq_true rfl)⟩
              · repeat' (first | exact Sub.nil | exact rfl | refine Sub.cons ?_ ?_)
              · repeat' (first | exact HTr.nil | exact objEq_refl _ | exact objEq_app1 | exact objEq_nil | exact objEq_mapP | exact objEq_mapI |  exact objEq_set (by first | omega | (simp; omega)) | exact objEq_appS (by simp) (appF_S rfl (fun _ _ => rfl)) | refine HTr.cons ?_ ?_ | refine HTr.dead rfl ?_)
        · try simp only [decide_eq_true_eq, decide_eq_false_iff_not] at hc4
          refine AWp.exit ?_
          repeat (with_reducible first | refine thenExit ?_ | refine blockSame ?_ | refine blockOther rfl ?_ | refine thenNil ?_ | refine blockNil ?_)
          refine AWp.seq ?_
          refine AWp.seq ?_
          refine AWp.region ?_
          refine AOps.run hT true rfl ?_ ?_
          · repeat' (first | exact trivial | exact Bool.not_or_self _ | refine And.intro ?_ ?_ | (simp; done) | (simp_all; done) | (simp [inR_i64] at *; omega) | decide)
          refine AOps.nil ?_
          repeat (with_reducible first | refine thenNil ?_ | refine blockNil ?_)
          refine AWp.block ?_
          refine AWp.loopS (σ := Int) (fun x => ((sumP (limF bs)).length - x).toNat) (fun x => [(3, .i (ci (limF bs))), (4, .i (lP (sumP (limF bs)))), (104, .i (lP (sumP (limF bs)))), (105, .i (ci (sumP (limF bs)).length)), (106, .i (ci x))]) (fun _ => []) (fun x => 0 ≤ x ∧ x ≤ (sumP (limF bs)).length) (0) ?_ ?_ ?_
          · refine ⟨?_, ?_, rfl, rfl, fun k hk => Nat.lt_of_lt_of_le (hfx k hk) (Nat.le_of_ble_eq_true rfl)⟩
            · repeat' (first | exact Sub.nil | exact rfl | refine Sub.cons ?_ ?_)
            · repeat' (first | exact HTr.nil | exact objEq_refl _ | exact objEq_app1 | exact objEq_nil | exact objEq_mapP | exact objEq_mapI |  exact objEq_set (by first | omega | (simp; omega)) | exact objEq_appS (by simp) (appF_S rfl (fun _ _ => rfl)) | refine HTr.cons ?_ ?_ | refine HTr.dead rfl ?_)
          · exact ⟨by omega, by omega⟩
          rintro x ⟨h0, h1⟩
          refine AWp.seq ?_
          refine AWp.region ?_
          refine AOps.run hT true rfl ?_ ?_
          · repeat' (first | exact trivial | exact Bool.not_or_self _ | refine And.intro ?_ ?_ | (simp; done) | (simp_all; done) | (simp [inR_i64] at *; omega) | decide)
          refine AOps.nil ?_
          repeat (with_reducible first | refine thenNil ?_ | refine blockNil ?_)
          refine AWp.seq ?_
          refine AWp.cond rfl ?_ (fun hc6 => ?_) (fun hc6 => ?_)
          · repeat' (first | exact trivial | exact Bool.not_or_self _ | refine And.intro ?_ ?_ | (simp; done) | (simp_all; done) | (simp [inR_i64] at *; omega) | decide)
          · try simp only [decide_eq_true_eq, decide_eq_false_iff_not] at hc6
            refine AWp.skip ?_
            repeat (with_reducible first | refine thenNil ?_ | refine blockNil ?_)
            refine AWp.seq ?_
            refine AWp.block ?_
            refine AWp.seq ?_
            refine AWp.region ?_
            refine AOps.run hT true rfl ?_ ?_
            · repeat' (first | exact trivial | exact Bool.not_or_self _ | refine And.intro ?_ ?_ | (simp; done) | (simp_all; done) | (simp [inR_i64] at *; omega) | decide)
            refine AOps.nil ?_
            repeat (with_reducible first | refine thenNil ?_ | refine blockNil ?_)
            refine AWp.seq ?_
            have hMm := sumP_mem (mem_take (l := (sumP (limF bs))) h0 hc6)
            have hSo := hsort x
            refine AWp.regionAny mixed [[], [0], [0, 1], [0, 1, 2], [0, 1, 2, 3], [0, 1, 2, 3, 4], [0, 1, 2, 3], [0, 1, 2, 3, 6], [0, 1, 2, 3, 4, 5, 6, 7], [0, 1, 2, 3, 4, 5, 6, 7, 8], [0, 1, 2, 3, 4, 5, 6, 7, 8, 9], [0, 1, 2, 3, 4, 5, 6, 7, 8, 9, 10], [0, 1, 2, 3, 4, 5, 6, 7, 8, 9, 10, 11], [0, 1, 2, 3, 4, 5, 6, 7, 8, 9, 10], [0, 1, 2, 3, 4, 5, 6, 7, 8, 9, 10, 13], [0, 1, 2, 3, 4, 5, 6, 7, 8, 9, 10, 11, 12, 13, 14], [0, 1, 2, 3, 4, 5, 6, 7, 8, 9, 10], [0, 1, 2, 3, 4, 5, 6, 7, 8, 9, 10, 11, 12, 13, 14, 15, 16], [0, 1, 2, 3, 4, 5, 6, 7, 8, 9, 10, 11, 12, 13, 14, 15, 16, 17], [0, 1, 2, 3, 4, 5, 6, 7, 8, 9, 10, 11, 12, 13, 14, 15, 16, 17, 18], [0, 1, 2, 3, 4, 5, 6, 7, 8, 9, 10, 11, 12, 13, 14, 15, 16, 17, 18, 19], [0, 1, 2, 3, 4, 5, 6, 7, 8, 9, 10, 11, 12, 13, 14, 15, 16, 17, 18, 19, 20], [0, 1, 2, 3, 4, 5, 6, 7, 8, 9, 10, 11, 12, 13, 14, 15, 16, 17, 18, 19, 20, 21], [0, 1, 2, 3, 4, 5, 6, 7, 8, 9, 10, 11, 12, 13, 14, 15, 16, 17, 18, 19, 20, 21, 22], [0, 1, 2, 3, 4, 5, 6, 7, 8, 9, 10, 11, 12, 13, 14, 15, 16, 17, 18, 19, 20, 21, 22], [0, 1, 2, 3, 4, 5, 6, 7, 8, 9, 10, 11, 12, 13, 14, 15, 16, 17, 18, 19, 20, 21, 22, 24], [0, 1, 2, 3, 4, 5, 6, 7, 8, 9, 10, 11, 12, 13, 14, 15, 16, 17, 18, 19, 20, 21, 22, 23, 24, 25], [0, 1, 2, 3, 4, 5, 6, 7, 8, 9, 10, 11, 12, 13, 14, 15, 16, 17, 18, 19, 20, 21, 22, 23, 24, 25, 26], [0, 1, 2, 3, 4, 5, 6, 7, 8, 9, 10, 11, 12, 13, 14, 15, 16, 17, 18, 19, 20, 21, 22, 23, 24, 25, 26, 27], [0, 1, 2, 3, 4, 5, 6, 7, 8, 9, 10, 11, 12, 13, 14, 15, 16, 17, 18, 19, 20, 21, 22], [0, 1, 2, 3, 4, 5, 6, 7, 8, 9, 10, 11, 12, 13, 14, 15, 16, 17, 18, 19, 20, 21, 22, 29], [0, 1, 2, 3, 4, 5, 6, 7, 8, 9, 10, 11, 12, 13, 14, 15, 16, 17, 18, 19, 20, 21, 22, 23, 24, 25, 26, 27, 28, 29, 30], [0, 1, 2, 3, 4, 5, 6, 7, 8, 9, 10, 11, 12, 13, 14, 15, 16, 17, 18, 19, 20, 21, 22, 23, 24, 25, 26, 27, 28, 29, 30, 31], [0, 1, 2, 3, 4, 5, 6, 7, 8, 9, 10, 11, 12, 13, 14, 15, 16, 17, 18, 19, 20, 21, 22, 23, 24, 25, 26, 27, 28, 29, 30, 31, 32]] [] [_, _, _, _, _, _, _, _, _, _, _, _, _, _, _, _, _, _, _, _, _, _, _, _, _, _, _, _, _, _, _, _, _, _] [_] rfl (by decide) rfl ⟨⟨OpStep.of_astep hT (nw := true) rfl ⟨_, rfl, rfl⟩ ?_, trivial⟩, ⟨OpStep.of_astep hT (nw := true) rfl ⟨_, rfl, rfl⟩ ?_, trivial⟩, ⟨OpStep.of_astep hT (nw := true) rfl ⟨_, rfl, rfl⟩ ?_, trivial⟩, ⟨OpStep.of_astep hT (nw := true) rfl ⟨_, rfl, rfl⟩ ?_, trivial⟩, ⟨OpStep.of_astep hT (nw := true) rfl ⟨_, rfl, rfl⟩ ?_, trivial⟩, ⟨OpStep.of_astep hT (nw := true) rfl ⟨_, rfl, rfl⟩ ?_, trivial⟩, ⟨OpStep.of_astep hT (nw := true) rfl ⟨_, rfl, rfl⟩ ?_, trivial⟩, ⟨OpStep.of_astep hT (nw := true) rfl ⟨_, rfl, rfl⟩ ?_, trivial⟩, ⟨OpStep.of_astep hT (nw := true) rfl ⟨_, rfl, rfl⟩ ?_, trivial⟩, ⟨OpStep.of_astep hT (nw := true) rfl ⟨_, rfl, rfl⟩ ?_, trivial⟩, ⟨OpStep.of_astep hT (nw := true) rfl ⟨_, rfl, rfl⟩ ?_, trivial⟩, ⟨OpStep.of_astep hT (nw := true) rfl ⟨_, rfl, rfl⟩ ?_, trivial⟩, ⟨OpStep.of_astep hT (nw := true) rfl ⟨_, rfl, rfl⟩ ?_, trivial⟩, ⟨OpStep.of_astep hT (nw := true) rfl ⟨_, rfl, rfl⟩ ?_, trivial⟩, ⟨OpStep.of_astep hT (nw := true) rfl ⟨_, rfl, rfl⟩ ?_, trivial⟩, ⟨OpStep.of_astep hT (nw := true) rfl ⟨_, rfl, rfl⟩ ?_, trivial⟩, ⟨OpStep.of_astep hT (nw := true) rfl ⟨_, rfl, rfl⟩ ?_, trivial⟩, ⟨OpStep.of_astep hT (nw := true) rfl ⟨_, rfl, rfl⟩ ?_, trivial⟩, ⟨OpStep.of_astep hT (nw := true) rfl ⟨_, rfl, rfl⟩ ?_, trivial⟩, ⟨OpStep.of_astep hT (nw := true) rfl ⟨_, rfl, rfl⟩ ?_, trivial⟩, ⟨OpStep.of_astep hT (nw := true) rfl ⟨_, rfl, rfl⟩ ?_, trivial⟩, ⟨OpStep.of_astep hT (nw := true) rfl ⟨_, rfl, rfl⟩ ?_, trivial⟩, ⟨OpStep.of_astep hT (nw := true) rfl ⟨_, rfl, rfl⟩ ?_, trivial⟩, ⟨OpStep.of_astep hT (nw := true) rfl ⟨_, rfl, rfl⟩ ?_, trivial⟩, ⟨OpStep.of_astep hT (nw := true) rfl ⟨_, rfl, rfl⟩ ?_, trivial⟩, ⟨OpStep.of_astep hT (nw := true) rfl ⟨_, rfl, rfl⟩ ?_, trivial⟩, ⟨OpStep.of_astep hT (nw := true) rfl ⟨_, rfl, rfl⟩ ?_, trivial⟩, ⟨OpStep.of_astep hT (nw := true) rfl ⟨_, rfl, rfl⟩ ?_, trivial⟩, ⟨OpStep.of_astep hT (nw := true) rfl ⟨_, rfl, rfl⟩ ?_, trivial⟩, ⟨OpStep.of_astep hT (nw := true) rfl ⟨_, rfl, rfl⟩ ?_, trivial⟩, ⟨OpStep.of_astep hT (nw := true) rfl ⟨_, rfl, rfl⟩ ?_, trivial⟩, ⟨OpStep.of_astep hT (nw := true) rfl ⟨_, rfl, rfl⟩ ?_, trivial⟩, ⟨OpStep.of_astep hT (nw := true) rfl ⟨_, rfl, rfl⟩ ?_, trivial⟩, ⟨OpStep.of_astep hT (nw := true) rfl ⟨_, rfl, rfl⟩ ?_, trivial⟩, trivial⟩ ?_
            · repeat' (first | exact trivial | exact Bool.not_or_self _ | refine And.intro ?_ ?_ | (simp; done) | (simp_all; done) | (simp [inR_i64] at *; omega) | decide)
            · repeat' (first | exact trivial | exact Bool.not_or_self _ | refine And.intro ?_ ?_ | (simp; done) | (simp_all; done) | (simp [inR_i64] at *; omega) | decide)
            · repeat' (first | exact trivial | exact Bool.not_or_self _ | refine And.intro ?_ ?_ | (simp; done) | (simp_all; done) | (simp [inR_i64] at *; omega) | decide)
            · repeat' (first | exact trivial | exact Bool.not_or_self _ | refine And.intro ?_ ?_ | (simp; done) | (simp_all; done) | (simp [inR_i64] at *; omega) | decide)
            · repeat' (first | exact trivial | exact Bool.not_or_self _ | refine And.intro ?_ ?_ | (simp; done) | (simp_all; done) | (simp [inR_i64] at *; omega) | decide)
            · repeat' (first | exact trivial | exact Bool.not_or_self _ | refine And.intro ?_ ?_ | (simp; done) | (simp_all; done) | (simp [inR_i64] at *; omega) | decide)
            · repeat' (first | exact trivial | exact Bool.not_or_self _ | refine And.intro ?_ ?_ | (simp; done) | (simp_all; done) | (simp [inR_i64] at *; omega) | decide)
            · repeat' (first | exact trivial | exact Bool.not_or_self _ | refine And.intro ?_ ?_ | (simp; done) | (simp_all; done) | (simp [inR_i64] at *; omega) | decide)
            · repeat' (first | exact trivial | exact Bool.not_or_self _ | refine And.intro ?_ ?_ | (simp; done) | (simp_all; done) | (simp [inR_i64] at *; omega) | decide)
            · repeat' (first | exact trivial | exact Bool.not_or_self _ | refine And.intro ?_ ?_ | (simp; done) | (simp_all; done) | (simp [inR_i64] at *; omega) | decide)
            · repeat' (first | exact trivial | exact Bool.not_or_self _ | refine And.intro ?_ ?_ | (simp; done) | (simp_all; done) | (simp [inR_i64] at *; omega) | decide)
            · repeat' (first | exact trivial | exact Bool.not_or_self _ | refine And.intro ?_ ?_ | (simp; done) | (simp_all; done) | (simp [inR_i64] at *; omega) | decide)
            · repeat' (first | exact trivial | exact Bool.not_or_self _ | refine And.intro ?_ ?_ | (simp; done) | (simp_all; done) | (simp [inR_i64] at *; omega) | decide)
            · repeat' (first | exact trivial | exact Bool.not_or_self _ | refine And.intro ?_ ?_ | (simp; done) | (simp_all; done) | (simp [inR_i64] at *; omega) | decide)
            · repeat' (first | exact trivial | exact Bool.not_or_self _ | refine And.intro ?_ ?_ | (simp; done) | (simp_all; done) | (simp [inR_i64] at *; omega) | decide)
            · repeat' (first | exact trivial | exact Bool.not_or_self _ | refine And.intro ?_ ?_ | (simp; done) | (simp_all; done) | (simp [inR_i64] at *; omega) | decide)
            · repeat' (first | exact trivial | exact Bool.not_or_self _ | refine And.intro ?_ ?_ | (simp; done) | (simp_all; done) | (simp [inR_i64] at *; omega) | decide)
            · repeat' (first | exact trivial | exact Bool.not_or_self _ | refine And.intro ?_ ?_ | (simp; done) | (simp_all; done) | (simp [inR_i64] at *; omega) | decide)
            · repeat' (first | exact trivial | exact Bool.not_or_self _ | refine And.intro ?_ ?_ | (simp; done) | (simp_all; done) | (simp [inR_i64] at *; omega) | decide)
            · repeat' (first | exact trivial | exact Bool.not_or_self _ | refine And.intro ?_ ?_ | (simp; done) | (simp_all; done) | (simp [inR_i64] at *; omega) | decide)
            · repeat' (first | exact trivial | exact Bool.not_or_self _ | refine And.intro ?_ ?_ | (simp; done) | (simp_all; done) | (simp [inR_i64] at *; omega) | decide)
            · repeat' (first | exact trivial | exact Bool.not_or_self _ | refine And.intro ?_ ?_ | (simp; done) | (simp_all; done) | (simp [inR_i64] at *; omega) | decide)
            · repeat' (first | exact trivial | exact Bool.not_or_self _ | refine And.intro ?_ ?_ | (simp; done) | (simp_all; done) | (simp [inR_i64] at *; omega) | decide)
            · repeat' (first | exact trivial | exact Bool.not_or_self _ | refine And.intro ?_ ?_ | (simp; done) | (simp_all; done) | (simp [inR_i64] at *; omega) | decide)
            · repeat' (first | exact trivial | exact Bool.not_or_self _ | refine And.intro ?_ ?_ | (simp; done) | (simp_all; done) | (simp [inR_i64] at *; omega) | decide)
            · repeat' (first | exact trivial | exact Bool.not_or_self _ | refine And.intro ?_ ?_ | (simp; done) | (simp_all; done) | (simp [inR_i64] at *; omega) | decide)
            · repeat' (first | exact trivial | exact Bool.not_or_self _ | refine And.intro ?_ ?_ | (simp; done) | (simp_all; done) | (simp [inR_i64] at *; omega) | decide)
            · repeat' (first | exact trivial | exact Bool.not_or_self _ | refine And.intro ?_ ?_ | (simp; done) | (simp_all; done) | (simp [inR_i64] at *; omega) | decide)
            · repeat' (first | exact trivial | exact Bool.not_or_self _ | refine And.intro ?_ ?_ | (simp; done) | (simp_all; done) | (simp [inR_i64] at *; omega) | decide)
            · repeat' (first | exact trivial | exact Bool.not_or_self _ | refine And.intro ?_ ?_ | (simp; done) | (simp_all; done) | (simp [inR_i64] at *; omega) | decide)
            · repeat' (first | exact trivial | exact Bool.not_or_self _ | refine And.intro ?_ ?_ | (simp; done) | (simp_all; done) | (simp [inR_i64] at *; omega) | decide)
            · repeat' (first | exact trivial | exact Bool.not_or_self _ | refine And.intro ?_ ?_ | (simp; done) | (simp_all; done) | (simp [inR_i64] at *; omega) | decide)
            · repeat' (first | exact trivial | exact Bool.not_or_self _ | refine And.intro ?_ ?_ | (simp; done) | (simp_all; done) | (simp [inR_i64] at *; omega) | decide)
            · repeat' (first | exact trivial | exact Bool.not_or_self _ | refine And.intro ?_ ?_ | (simp; done) | (simp_all; done) | (simp [inR_i64] at *; omega) | decide)
            repeat (with_reducible first | refine thenNil ?_ | refine blockNil ?_)
            refine AWp.cond rfl ?_ (fun hc7 => ?_) (fun hc7 => ?_)
            · repeat' (first | exact trivial | exact Bool.not_or_self _ | refine And.intro ?_ ?_ | (simp; done) | (simp_all; done) | (simp [inR_i64] at *; omega) | decide)
            · generalize (sumP (limF bs)).getD x.toNat default = a at hc7 hMm hSo; generalize (sumP (limF bs)).getD (x - 1).toNat default = b at hc7 hSo; simp at hc7; omega
            · try simp only [decide_eq_true_eq, decide_eq_false_iff_not] at hc7
              refine AWp.skip ?_
              repeat (with_reducible first | refine thenNil ?_ | refine blockNil ?_)
              refine AWp.region ?_
              refine AOps.run hT true rfl ?_ ?_
              · repeat' (first | exact trivial | exact Bool.not_or_self _ | refine And.intro ?_ ?_ | (simp; done) | (simp_all; done) | (simp [inR_i64] at *; omega) | decide)
              refine AOps.nil ?_
              repeat (with_reducible first | refine thenNil ?_ | refine blockNil ?_)
              refine Exists.intro (x + 1) (And.intro (And.intro ?_ ?_) ?_)
              · simp at *; omega
              · exact ⟨by omega, by omega⟩
              · refine ⟨?_, ?_, rfl, rfl, fun k hk => Nat.lt_of_lt_of_le (hfx k hk) (Nat.le_of_ble_eq_true rfl)⟩
                · repeat' (first | exact Sub.nil | exact rfl | refine Sub.cons ?_ ?_)
                · repeat' (first | exact HTr.nil | exact objEq_refl _ | exact objEq_app1 | exact objEq_nil | exact objEq_mapP | exact objEq_mapI |  exact objEq_set (by first | omega | (simp; omega)) | exact objEq_appS (by simp) (appF_S rfl (fun _ _ => rfl)) | refine HTr.cons ?_ ?_ | refine HTr.dead rfl ?_)
          · try simp only [decide_eq_true_eq, decide_eq_false_iff_not] at hc6
            refine AWp.exit ?_
            repeat (with_reducible first | refine thenExit ?_ | refine blockSame ?_ | refine blockOther rfl ?_ | refine thenNil ?_ | refine blockNil ?_)
            refine AWp.seq ?_
            obtain ⟨q65, hf65, hl65⟩ : ∃ q : List (Int × Int), AFn P 52 [ci 65] (.i (lP q)) [] ∧ ((q.length : Nat) : Int) = 1 := ⟨puzz 65, AFn.freeze1 (PuzzlePairs_fn 65 (by constructor <;> decide)), puzz65⟩
            obtain ⟨q64, hf64, hl64⟩ : ∃ q : List (Int × Int), AFn P 52 [ci 64] (.i (lP q)) [] ∧ ((q.length : Nat) : Int) = 0 := ⟨puzz 64, AFn.freeze1 (PuzzlePairs_fn 64 (by constructor <;> decide)), puzz64⟩
            refine AWp.region ?_
            refine AOps.callF (T := T) rfl rfl rfl rfl rfl ?_ (hf65) (.inr rfl) rfl ?_
            · repeat' (first | exact trivial | exact Bool.not_or_self _ | refine And.intro ?_ ?_ | (simp; done) | (simp_all; done) | (simp [inR_i64] at *; omega) | decide)
            refine AOps.run hT true rfl ?_ ?_
            · repeat' (first | exact trivial | exact Bool.not_or_self _ | refine And.intro ?_ ?_ | (simp; done) | (simp_all; done) | (simp [inR_i64] at *; omega) | decide)
            refine AOps.callG (T := T) rfl rfl rfl rfl rfl (fun hg => ?_) (fun hg => hf64) (.inr rfl) rfl ?_
            · repeat' (first | exact trivial | exact Bool.not_or_self _ | refine And.intro ?_ ?_ | (simp; done) | (simp_all; done) | (simp [inR_i64] at *; omega) | decide)
            refine AOps.run hT true rfl ?_ ?_
            · repeat' (first | exact trivial | exact Bool.not_or_self _ | refine And.intro ?_ ?_ | (simp; done) | (simp_all; done) | (simp [inR_i64] at *; omega) | decide)
            refine AOps.nil ?_
            repeat (with_reducible first | refine thenNil ?_ | refine blockNil ?_)
            refine AWp.ret ?_
            repeat (with_reducible first | refine thenRet ?_ | refine blockRet ?_)
            refine EndsIn.ret rfl ?_ ?_
            · repeat' (first | exact trivial | exact Bool.not_or_self _ | refine And.intro ?_ ?_ | (simp; done) | (simp_all; done) | (simp [inR_i64] at *; omega) | decide)
            refine ⟨[], ?_, rfl, rfl, rfl⟩
            rw [hl65, hl64]; rfl

end Go.AMA
