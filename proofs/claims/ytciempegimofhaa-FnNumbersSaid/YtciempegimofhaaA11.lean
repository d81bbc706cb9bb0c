/- Contracts of functions of the program, for the claims of this seat. -/
import Derived.Test.YtciempegimofhaaA10
set_option linter.unusedSectionVars false
set_option linter.unusedSimpArgs false
set_option linter.unusedVariables false
set_option linter.unnecessarySimpa false
namespace Go.AMA
open Go.AM
def numB (most : Int) (p : Int × Int) : List (Int × Int) := leftF most ((ansL most p).take (((ansL most p).length : Int) - 1).toNat)
def numA (most : Int) (p : Int × Int) : List (Int × Int) := leftF most (ansL most p)
def numX (most : Int) (p : Int × Int) : Bool := (((ansL most p).length : Int) - 1).tmod 2 == 0
def numOk (most : Int) (p : Int × Int) : Bool :=
  ((ansF most p).isSome && (decide (1 ≤ ((ansL most p).length : Int)) && (decide (((ansL most p).length : Int) ≤ most + 1) && pairOk p))) &&
  ((List.range (ansL most p).length).all (fun i => (ansL most p).getD i default == ((i : Int) == ((ansL most p).length : Int) - 1)) &&
  ((knows (numB most p) p (numX most p) && (decide ((numA most p).length ≤ (numB most p).length) && has (numA most p) p)) &&
  ((numA most p).all (fun x => knows (numB most p) x (numX most p)) && (((aft (numB most p) (numX most p) false).length : Int) + ((numA most p).length : Int) == ((numB most p).length : Int)))))
set_option maxRecDepth 100000 in
theorem num_all : ((List.range 12).all fun i => (allP ((i : Int) + 1)).all fun p => numOk ((i : Int) + 1) p) = true := by decide +kernel
theorem num_ok (bs : List Int) : numOk (mkM bs) (mkP bs) = true := by
  have h := mkM_range bs
  have := List.all_eq_true.1 num_all (mkM bs - 1).toNat (by rw [List.mem_range]; omega)
  rw [show (((mkM bs - 1).toNat : Nat) : Int) + 1 = mkM bs by omega] at this
  exact List.all_eq_true.1 this _ (mkP_mem bs)
theorem left_slice (most : Int) (L : List Bool) (k : Int) (hm : i64 most) (h0 : 0 ≤ k) (hk : k ≤ L.length) (hL : L.length ≤ 1048576) :
    AFn P 66 [ci most, .sl 1 false k.toNat (fun j => cb (L.getD (0 + j) default))] (.i (lP (leftF most (L.take k.toNat)))) [] :=
  (AFn.freeze1 (PairsLeft_fn most (L.take k.toNat) hm (by simp; omega))).congr (fun I w X vs h => by
    obtain ⟨v, r, h1, h2, v2, r2, h3, h4, h5⟩ := h
    refine ⟨v, r, h1, h2, v2, r2, h3, irel_sl (by simp; omega) (fun j hj => ?_) h4, h5⟩
    simp [List.getElem?_take, hj])


set_option maxRecDepth 20000 in
set_option maxHeartbeats 4000000 in
theorem law16 (bs : List Int) (hb0 : bs.length ≤ maxLen) : AFn P 16 [lY bs] (.i (cb true)) [] := by
  refine AFn.of_body Tok 138 Go.Proofs.Try.func16 rfl rfl rfl (by simp) rfl ?_
  rintro ⟨_, _, w0, I0, O0, X0, fx⟩ rfl rfl hT hfx
  refine AWp.seq ?_
  refine AWp.region ?_
  refine AOps.run hT true rfl ?_ ?_
  · repeat' (first | exact trivial | exact Bool.not_or_self _ | refine And.intro ?_ ?_ | (simp; done) | (simp_all; done) | (simp [inR_i64] at *; omega) | decide)
  refine AOps.nil ?_
  repeat (with_reducible first | refine thenNil ?_ | refine blockNil ?_)
  refine AWp.seq ?_
  refine AWp.seq ?_
  refine AWp.region ?_
  refine AOps.run hT true rfl ?_ ?_
  · repeat' (first | exact trivial | exact Bool.not_or_self _ | refine And.intro ?_ ?_ | (simp; done) | (simp_all; done) | (simp [inR_i64] at *; omega) | decide)
  refine AOps.nil ?_
  repeat (with_reducible first | refine thenNil ?_ | refine blockNil ?_)
  refine AWp.cond rfl ?_ (fun hc0 => ?_) (fun hc0 => ?_)
  · repeat' (first | exact trivial | exact Bool.not_or_self _ | refine And.intro ?_ ?_ | (simp; done) | (simp_all; done) | (simp [inR_i64] at *; omega) | decide)
  · try simp only [decide_eq_true_eq, decide_eq_false_iff_not] at hc0
    refine AWp.seq ?_
    skip
    refine AWp.region ?_
    refine AOps.run hT true rfl ?_ ?_
    · repeat' (first | exact trivial | exact Bool.not_or_self _ | refine And.intro ?_ ?_ | (simp; done) | (simp_all; done) | (simp [inR_i64] at *; omega) | decide)
    refine AOps.nil ?_
    repeat (with_reducible first | refine thenNil ?_ | refine blockNil ?_)
    refine AWp.ret ?_
    repeat (with_reducible first | refine thenRet ?_ | refine blockRet ?_)
    refine EndsIn.ret rfl ?_ ?_
    · repeat' (first | exact trivial | exact Bool.not_or_self _ | refine And.intro ?_ ?_ | (simp; done) | (simp_all; done) | (simp [inR_i64] at *; omega) | decide)
    refine ⟨[], ?_, rfl, rfl, rfl⟩
    rfl
  · try simp only [decide_eq_true_eq, decide_eq_false_iff_not] at hc0
    refine AWp.skip ?_
    repeat (with_reducible first | refine thenNil ?_ | refine blockNil ?_)
    refine AWp.seq ?_
    have hb : bs.length ≤ 1048576 := by omega
    have hM := mkM_range bs
    have hm : i64 (mkM bs) := by constructor <;> omega
    have hN := num_ok bs
    simp only [numOk, Bool.and_eq_true, decide_eq_true_eq, beq_iff_eq] at hN
    obtain ⟨⟨hA1, hA2, hA3, hA4⟩, hB, ⟨hC1, hC2, hC3⟩, hD, hE⟩ := hN
    have hLl := ansL_len (mkM bs) (mkP bs)
    have hBl : (numB (mkM bs) (mkP bs)).length ≤ 1048576 := leftF_len _ _
    have hAl : (numA (mkM bs) (mkP bs)).length ≤ 1048576 := leftF_len _ _
    have hXl : (aft (numB (mkM bs) (mkP bs)) (numX (mkM bs) (mkP bs)) false).length ≤ 1048576 := aft_len hBl
    have hPl := allP_length (most := (mkM bs)) hM.1 (by omega)
    have hL1 : ∀ x : Int, 0 ≤ x → x < (ansL (mkM bs) (mkP bs)).length → (ansL (mkM bs) (mkP bs)).getD x.toNat default = (x == ((ansL (mkM bs) (mkP bs)).length : Int) - 1) := fun x g0 g1 => by
      have := List.all_eq_true.1 hB x.toNat (by rw [List.mem_range]; omega)
      rw [show ((x.toNat : Nat) : Int) = x by omega] at this
      simpa using this
    have hK1 : ∀ x : Int, 0 ≤ x → x < (numA (mkM bs) (mkP bs)).length → knows (numB (mkM bs) (mkP bs)) ((numA (mkM bs) (mkP bs)).getD x.toNat default) (numX (mkM bs) (mkP bs)) = true := fun x g0 g1 => List.all_eq_true.1 hD _ (mem_take g0 g1)
    refine AWp.region ?_
    refine AOps.run hT true rfl ?_ ?_
    · repeat' (first | exact trivial | exact Bool.not_or_self _ | refine And.intro ?_ ?_ | (simp; done) | (simp_all; done) | (simp [inR_i64] at *; omega) | decide)
    refine AOps.callF (T := T) rfl rfl rfl rfl rfl ?_ (MakePair_fn bs hb) (.inr rfl) rfl ?_
    · repeat' (first | exact trivial | exact Bool.not_or_self _ | refine And.intro ?_ ?_ | (simp; done) | (simp_all; done) | (simp [inR_i64] at *; omega) | decide)
    refine AOps.run hT true rfl ?_ ?_
    · repeat' (first | exact trivial | exact Bool.not_or_self _ | refine And.intro ?_ ?_ | (simp; done) | (simp_all; done) | (simp [inR_i64] at *; omega) | decide)
    refine AOps.nil ?_
    repeat (with_reducible first | refine thenNil ?_ | refine blockNil ?_)
    refine AWp.seq ?_
    refine AWp.region ?_
    refine AOps.run hT true rfl ?_ ?_
    · repeat' (first | exact trivial | exact Bool.not_or_self _ | refine And.intro ?_ ?_ | (simp; done) | (simp_all; done) | (simp [inR_i64] at *; omega) | decide)
    refine AOps.callF (T := T) rfl rfl rfl rfl rfl ?_ (AFn.freeze2 (AnswersFor_fn (mkM bs) (mkP bs) hm)) (.inr rfl) rfl ?_
    · repeat' (first | exact trivial | exact Bool.not_or_self _ | refine And.intro ?_ ?_ | (simp; done) | (simp_all; done) | (simp [inR_i64] at *; omega) | decide)
    refine AOps.run hT true rfl ?_ ?_
    · repeat' (first | exact trivial | exact Bool.not_or_self _ | refine And.intro ?_ ?_ | (simp; done) | (simp_all; done) | (simp [inR_i64] at *; omega) | decide)
    refine AOps.nil ?_
    repeat (with_reducible first | refine thenNil ?_ | refine blockNil ?_)
    refine AWp.seq ?_
    refine AWp.region ?_
    refine AOps.run hT true rfl ?_ ?_
    · repeat' (first | exact trivial | exact Bool.not_or_self _ | refine And.intro ?_ ?_ | (simp; done) | (simp_all; done) | (simp [inR_i64] at *; omega) | decide)
    refine AOps.callF (T := T) rfl rfl rfl rfl rfl ?_ (TurnOf_fn (mkM bs) (mkP bs) hm) (.inl ⟨by repeat' (first | exact trivial | refine And.intro ?_ ?_ | intro _), by repeat' (first | exact trivial | refine And.intro ?_ ?_ | intro _)⟩) rfl ?_
    · repeat' (first | exact trivial | exact Bool.not_or_self _ | refine And.intro ?_ ?_ | (simp; done) | (simp_all; done) | (simp [inR_i64] at *; omega) | decide)
    refine AOps.run hT true rfl ?_ ?_
    · repeat' (first | exact trivial | exact Bool.not_or_self _ | refine And.intro ?_ ?_ | (simp; done) | (simp_all; done) | (simp [inR_i64] at *; omega) | decide)
    refine AOps.nil ?_
    repeat (with_reducible first | refine thenNil ?_ | refine blockNil ?_)
    refine AWp.seq ?_
    refine AWp.seq ?_
    refine AWp.region ?_
    refine AOps.run hT true rfl ?_ ?_
    · repeat' (first | exact trivial | exact Bool.not_or_self _ | refine And.intro ?_ ?_ | (simp; done) | (simp_all; done) | (simp [inR_i64] at *; omega) | decide)
    refine AOps.callG (T := T) rfl rfl rfl rfl rfl (fun hg => ?_) (fun hg => PairOk_fn (mkP bs)) (.inl (by repeat' (first | exact trivial | refine And.intro ?_ ?_ | intro _))) rfl ?_
    · repeat' (first | exact trivial | exact Bool.not_or_self _ | refine And.intro ?_ ?_ | (simp; done) | (simp_all; done) | (simp [inR_i64] at *; omega) | decide)
    refine AOps.run hT true rfl ?_ ?_
    · repeat' (first | exact trivial | exact Bool.not_or_self _ | refine And.intro ?_ ?_ | (simp; done) | (simp_all; done) | (simp [inR_i64] at *; omega) | decide)
    refine AOps.nil ?_
    repeat (with_reducible first | refine thenNil ?_ | refine blockNil ?_)
    refine AWp.cond rfl ?_ (fun hc1 => ?_) (fun hc1 => ?_)
    · repeat' (first | exact trivial | exact Bool.not_or_self _ | refine And.intro ?_ ?_ | (simp; done) | (simp_all; done) | (simp [inR_i64] at *; omega) | decide)
    · rw [hA1, hA4] at hc1; simp at hc1; omega
    · try simp only [decide_eq_true_eq, decide_eq_false_iff_not] at hc1
      refine AWp.skip ?_
      repeat (with_reducible first | refine thenNil ?_ | refine blockNil ?_)
      refine AWp.seq ?_
      refine AWp.seq ?_
      refine AWp.region ?_
      refine AOps.run hT true rfl ?_ ?_
      · repeat' (first | exact trivial | exact Bool.not_or_self _ | refine And.intro ?_ ?_ | (simp; done) | (simp_all; done) | (simp [inR_i64] at *; omega) | decide)
      refine AOps.nil ?_
      repeat (with_reducible first | refine thenNil ?_ | refine blockNil ?_)
      refine AWp.block ?_
      refine AWp.loopS (σ := Int) (fun x => ((ansL (mkM bs) (mkP bs)).length - x).toNat) (fun x => [(3, .i (ci (mkM bs))), (4, .optr 0 0), (5, .i (lB (ansL (mkM bs) (mkP bs)))), (7, .i (ci (ansL (mkM bs) (mkP bs)).length)), (55, .i (lB (ansL (mkM bs) (mkP bs)))), (56, .i (ci (ansL (mkM bs) (mkP bs)).length)), (57, .i (ci x))]) (fun _ => [bP (mkP bs)]) (fun x => 0 ≤ x ∧ x ≤ (ansL (mkM bs) (mkP bs)).length) (0) ?_ ?_ ?_
      · refine ⟨?_, ?_, rfl, rfl, fun k hk => Nat.lt_of_lt_of_le (hfx k hk) (Nat.le_of_ble_eq_true rfl)⟩
        · repeat' (first | exact Sub.nil | exact rfl | refine Sub.cons ?_ ?_)
        · repeat' (first | exact HTr.nil | exact objEq_refl _ | exact objEq_app1 | exact objEq_nil | exact objEq_mapP | exact objEq_mapI |  exact objEq_set (by first | omega | (simp; omega)) | exact objEq_appS (by simp) (appF_S rfl (fun _ _ => rfl)) | refine HTr.cons ?_ ?_ | refine HTr.dead rfl ?_)
      · exact ⟨by omega, by omega⟩
      rintro x ⟨h0, h1⟩
      refine AWp.seq ?_
      refine AWp.region ?_
      refine AOps.run hT true rfl ?_ ?_
      · repeat' (first | exact trivial | exact Bool.not_or_self _ | refine And.intro ?_ ?_ | (simp; done) | (simp_all; done) | (simp [inR_i64] at *; omega) | decide)
      refine AOps.nil ?_
      repeat (with_reducible first | refine thenNil ?_ | refine blockNil ?_)
      refine AWp.seq ?_
      refine AWp.cond rfl ?_ (fun hc2 => ?_) (fun hc2 => ?_)
      · repeat' (first | exact trivial | exact Bool.not_or_self _ | refine And.intro ?_ ?_ | (simp; done) | (simp_all; done) | (simp [inR_i64] at *; omega) | decide)
      · try simp only [decide_eq_true_eq, decide_eq_false_iff_not] at hc2
        refine AWp.skip ?_
        repeat (with_reducible first | refine thenNil ?_ | refine blockNil ?_)
        refine AWp.seq ?_
        refine AWp.block ?_
        refine AWp.seq ?_
        refine AWp.region ?_
        refine AOps.run hT true rfl ?_ ?_
        · repeat' (first | exact trivial | exact Bool.not_or_self _ | refine And.intro ?_ ?_ | (simp; done) | (simp_all; done) | (simp [inR_i64] at *; omega) | decide)
        refine AOps.nil ?_
        repeat (with_reducible first | refine thenNil ?_ | refine blockNil ?_)
        refine AWp.seq ?_
        refine AWp.region ?_
        refine AOps.run hT true rfl ?_ ?_
        · repeat' (first | exact trivial | exact Bool.not_or_self _ | refine And.intro ?_ ?_ | (simp; done) | (simp_all; done) | (simp [inR_i64] at *; omega) | decide)
        refine AOps.nil ?_
        repeat (with_reducible first | refine thenNil ?_ | refine blockNil ?_)
        refine AWp.cond rfl ?_ (fun hc3 => ?_) (fun hc3 => ?_)
        · repeat' (first | exact trivial | exact Bool.not_or_self _ | refine And.intro ?_ ?_ | (simp; done) | (simp_all; done) | (simp [inR_i64] at *; omega) | decide)
        · rw [hL1 x h0 hc2] at hc3; simp at hc3
        · try simp only [decide_eq_true_eq, decide_eq_false_iff_not] at hc3
          refine AWp.skip ?_
          repeat (with_reducible first | refine thenNil ?_ | refine blockNil ?_)
          refine AWp.region ?_
          refine AOps.run hT true rfl ?_ ?_
          · repeat' (first | exact trivial | exact Bool.not_or_self _ | refine And.intro ?_ ?_ | (simp; done) | (simp_all; done) | (simp [inR_i64] at *; omega) | decide)
          refine AOps.nil ?_
          repeat (with_reducible first | refine thenNil ?_ | refine blockNil ?_)
          refine Exists.intro (x + 1) (And.intro (And.intro ?_ ?_) ?_)
          · simp at *; omega
          · exact ⟨by omega, by omega⟩
          · refine ⟨?_, ?_, rfl, rfl, fun k hk => Nat.lt_of_lt_of_le (hfx k hk) (Nat.le_of_ble_eq_true rfl)⟩
            · repeat' (first | exact Sub.nil | exact rfl | refine Sub.cons ?_ ?_)
            · repeat' (first | exact HTr.nil | exact objEq_refl _ | exact objEq_app1 | exact objEq_nil | exact objEq_mapP | exact objEq_mapI |  exact objEq_set (by first | omega | (simp; omega)) | exact objEq_appS (by simp) (appF_S rfl (fun _ _ => rfl)) | refine HTr.cons ?_ ?_ | refine HTr.dead rfl ?_)
      · try simp only [decide_eq_true_eq, decide_eq_false_iff_not] at hc2
        refine AWp.exit ?_
        repeat (with_reducible first | refine thenExit ?_ | refine blockSame ?_ | refine blockOther rfl ?_ | refine thenNil ?_ | refine blockNil ?_)
        refine AWp.seq ?_
        refine AWp.region ?_
        refine AOps.run hT true rfl ?_ ?_
        · repeat' (first | exact trivial | exact Bool.not_or_self _ | refine And.intro ?_ ?_ | (simp; done) | (simp_all; done) | (simp [inR_i64] at *; omega) | decide)
        refine AOps.callF (T := T) rfl rfl rfl rfl rfl ?_ (left_slice (mkM bs) (ansL (mkM bs) (mkP bs)) (((ansL (mkM bs) (mkP bs)).length : Int) - 1) hm (by omega) (by omega) (by omega)) (.inr rfl) rfl ?_
        · repeat' (first | exact trivial | exact Bool.not_or_self _ | refine And.intro ?_ ?_ | (simp; done) | (simp_all; done) | (simp [inR_i64] at *; omega) | decide)
        refine AOps.run hT true rfl ?_ ?_
        · repeat' (first | exact trivial | exact Bool.not_or_self _ | refine And.intro ?_ ?_ | (simp; done) | (simp_all; done) | (simp [inR_i64] at *; omega) | decide)
        refine AOps.nil ?_
        repeat (with_reducible first | refine thenNil ?_ | refine blockNil ?_)
        refine AWp.seq ?_
        refine AWp.region ?_
        refine AOps.run hT true rfl ?_ ?_
        · repeat' (first | exact trivial | exact Bool.not_or_self _ | refine And.intro ?_ ?_ | (simp; done) | (simp_all; done) | (simp [inR_i64] at *; omega) | decide)
        refine AOps.callF (T := T) rfl rfl rfl rfl rfl ?_ (AFn.freeze1 (PairsLeft_fn (mkM bs) (ansL (mkM bs) (mkP bs)) hm (by omega))) (.inr rfl) rfl ?_
        · repeat' (first | exact trivial | exact Bool.not_or_self _ | refine And.intro ?_ ?_ | (simp; done) | (simp_all; done) | (simp [inR_i64] at *; omega) | decide)
        refine AOps.run hT true rfl ?_ ?_
        · repeat' (first | exact trivial | exact Bool.not_or_self _ | refine And.intro ?_ ?_ | (simp; done) | (simp_all; done) | (simp [inR_i64] at *; omega) | decide)
        refine AOps.nil ?_
        repeat (with_reducible first | refine thenNil ?_ | refine blockNil ?_)
        refine AWp.seq ?_
        refine AWp.seq ?_
        refine AWp.region ?_
        refine AOps.run hT true rfl ?_ ?_
        · repeat' (first | exact trivial | exact Bool.not_or_self _ | refine And.intro ?_ ?_ | (simp; done) | (simp_all; done) | (simp [inR_i64] at *; omega) | decide)
        refine AOps.callF (T := T) rfl rfl rfl rfl rfl ?_ (KnowsOwn_fn (numB (mkM bs) (mkP bs)) (mkP bs) (numX (mkM bs) (mkP bs)) hBl) (.inl ⟨by repeat' (first | exact trivial | refine And.intro ?_ ?_ | intro _), by repeat' (first | exact trivial | refine And.intro ?_ ?_ | intro _)⟩) rfl ?_
        · repeat' (first | exact trivial | exact Bool.not_or_self _ | refine And.intro ?_ ?_ | (simp; done) | (simp_all; done) | (simp [inR_i64] at *; omega) | decide)
        refine AOps.run hT true rfl ?_ ?_
        · repeat' (first | exact trivial | exact Bool.not_or_self _ | refine And.intro ?_ ?_ | (simp; done) | (simp_all; done) | (simp [inR_i64] at *; omega) | decide)
        refine AOps.callG (T := T) rfl rfl rfl rfl rfl (fun hg => ?_) (fun hg => AFn.freeze1 (AllPairs_fn (mkM bs) hm)) (.inr rfl) rfl ?_
        · repeat' (first | exact trivial | exact Bool.not_or_self _ | refine And.intro ?_ ?_ | (simp; done) | (simp_all; done) | (simp [inR_i64] at *; omega) | decide)
        refine AOps.run hT true rfl ?_ ?_
        · repeat' (first | exact trivial | exact Bool.not_or_self _ | refine And.intro ?_ ?_ | (simp; done) | (simp_all; done) | (simp [inR_i64] at *; omega) | decide)
        refine AOps.nil ?_
        repeat (with_reducible first | refine thenNil ?_ | refine blockNil ?_)
        refine AWp.cond rfl ?_ (fun hc4 => ?_) (fun hc4 => ?_)
        · repeat' (first | exact trivial | exact Bool.not_or_self _ | refine And.intro ?_ ?_ | (simp; done) | (simp_all; done) | (simp [inR_i64] at *; omega) | decide)
        · rw [show knows _ _ _ = true from hC1] at hc4; have h8 : ((leftF (mkM bs) (ansL (mkM bs) (mkP bs))).length : Int) ≤ ((leftF (mkM bs) ((ansL (mkM bs) (mkP bs)).take (((ansL (mkM bs) (mkP bs)).length : Int) - 1).toNat)).length : Int) := Int.ofNat_le.2 hC2; simp at hc4 h8; omega
        · try simp only [decide_eq_true_eq, decide_eq_false_iff_not] at hc4
          refine AWp.skip ?_
          repeat (with_reducible first | refine thenNil ?_ | refine blockNil ?_)
          refine AWp.seq ?_
          refine AWp.region ?_
          refine AOps.run hT true rfl ?_ ?_
          · repeat' (first | exact trivial | exact Bool.not_or_self _ | refine And.intro ?_ ?_ | (simp; done) | (simp_all; done) | (simp [inR_i64] at *; omega) | decide)
          refine AOps.nil ?_
          repeat (with_reducible first | refine thenNil ?_ | refine blockNil ?_)
          refine AWp.seq ?_
          refine AWp.seq ?_
          refine AWp.region ?_
          refine AOps.run hT true rfl ?_ ?_
          · repeat' (first | exact trivial | exact Bool.not_or_self _ | refine And.intro ?_ ?_ | (simp; done) | (simp_all; done) | (simp [inR_i64] at *; omega) | decide)
          refine AOps.nil ?_
          repeat (with_reducible first | refine thenNil ?_ | refine blockNil ?_)
          refine AWp.block ?_
          refine AWp.loopS (σ := Int × Bool) (fun (x, _) => ((numA (mkM bs) (mkP bs)).length - x).toNat) (fun (x, fd) => [(4, .optr 0 0), (7, .i (ci (ansL (mkM bs) (mkP bs)).length)), (10, .i (lP (numB (mkM bs) (mkP bs)))), (11, .i (lP (numA (mkM bs) (mkP bs)))), (12, .i (cb fd)), (101, .i (lP (numA (mkM bs) (mkP bs)))), (102, .i (ci (numA (mkM bs) (mkP bs)).length)), (103, .i (ci x))]) (fun _ => [bP (mkP bs)]) (fun (x, fd) => 0 ≤ x ∧ x ≤ (numA (mkM bs) (mkP bs)).length ∧ fd = ((numA (mkM bs) (mkP bs)).take x.toNat).any (fun y => pe y (mkP bs))) ((0, false)) ?_ ?_ ?_
          · refine ⟨?_, ?_, rfl, rfl, fun k hk => Nat.lt_of_lt_of_le (hfx k hk) (Nat.le_of_ble_eq_true rfl)⟩
            · repeat' (first | exact Sub.nil | exact rfl | refine Sub.cons ?_ ?_)
            · repeat' (first | exact HTr.nil | exact objEq_refl _ | exact objEq_app1 | exact objEq_nil | exact objEq_mapP | exact objEq_mapI |  exact objEq_set (by first | omega | (simp; omega)) | exact objEq_appS (by simp) (appF_S rfl (fun _ _ => rfl)) | refine HTr.cons ?_ ?_ | refine HTr.dead rfl ?_)
          · exact ⟨by omega, by omega, rfl⟩
          rintro ⟨x, fd⟩ ⟨h0, h1, h2⟩
          refine AWp.seq ?_
          refine AWp.region ?_
          refine AOps.run hT true rfl ?_ ?_
          · repeat' (first | exact trivial | exact Bool.not_or_self _ | refine And.intro ?_ ?_ | (simp; done) | (simp_all; done) | (simp [inR_i64] at *; omega) | decide)
          refine AOps.nil ?_
          repeat (with_reducible first | refine thenNil ?_ | refine blockNil ?_)
          refine AWp.seq ?_
          refine AWp.cond rfl ?_ (fun hc5 => ?_) (fun hc5 => ?_)
          · repeat' (first | exact trivial | exact Bool.not_or_self _ | refine And.intro ?_ ?_ | (simp; done) | (simp_all; done) | (simp [inR_i64] at *; omega) | decide)
          · try simp only [decide_eq_true_eq, decide_eq_false_iff_not] at hc5
            refine AWp.skip ?_
            repeat (with_reducible first | refine thenNil ?_ | refine blockNil ?_)
            refine AWp.seq ?_
            refine AWp.block ?_
            refine AWp.seq ?_
            refine AWp.region ?_
            refine AOps.run hT true rfl ?_ ?_
            · repeat' (first | exact trivial | exact Bool.not_or_self _ | refine And.intro ?_ ?_ | (simp; done) | (simp_all; done) | (simp [inR_i64] at *; omega) | decide)
            refine AOps.nil ?_
            repeat (with_reducible first | refine thenNil ?_ | refine blockNil ?_)
            refine AWp.seq ?_
            refine AWp.region ?_
            refine AOps.run hT true rfl ?_ ?_
            · repeat' (first | exact trivial | exact Bool.not_or_self _ | refine And.intro ?_ ?_ | (simp; done) | (simp_all; done) | (simp [inR_i64] at *; omega) | decide)
            refine AOps.nil ?_
            repeat (with_reducible first | refine thenNil ?_ | refine blockNil ?_)
            refine AWp.seq ?_
            refine AWp.region ?_
            refine AOps.run hT true rfl ?_ ?_
            · repeat' (first | exact trivial | exact Bool.not_or_self _ | refine And.intro ?_ ?_ | (simp; done) | (simp_all; done) | (simp [inR_i64] at *; omega) | decide)
            refine AOps.callF (T := T) rfl rfl rfl rfl rfl ?_ (KnowsOwn_fn (numB (mkM bs) (mkP bs)) ((numA (mkM bs) (mkP bs)).getD x.toNat default) (numX (mkM bs) (mkP bs)) hBl) (.inl ⟨by repeat' (first | exact trivial | refine And.intro ?_ ?_ | intro _), by repeat' (first | exact trivial | refine And.intro ?_ ?_ | intro _)⟩) rfl ?_
            · repeat' (first | exact trivial | exact Bool.not_or_self _ | refine And.intro ?_ ?_ | (simp; done) | (simp_all; done) | (simp [inR_i64] at *; omega) | decide)
            refine AOps.run hT true rfl ?_ ?_
            · repeat' (first | exact trivial | exact Bool.not_or_self _ | refine And.intro ?_ ?_ | (simp; done) | (simp_all; done) | (simp [inR_i64] at *; omega) | decide)
            refine AOps.nil ?_
            repeat (with_reducible first | refine thenNil ?_ | refine blockNil ?_)
            refine AWp.cond rfl ?_ (fun hc6 => ?_) (fun hc6 => ?_)
            · repeat' (first | exact trivial | exact Bool.not_or_self _ | refine And.intro ?_ ?_ | (simp; done) | (simp_all; done) | (simp [inR_i64] at *; omega) | decide)
            · rw [show knows _ _ _ = true from hK1 x h0 hc5] at hc6; cases hc6
            · try simp only [decide_eq_true_eq, decide_eq_false_iff_not] at hc6
              refine AWp.skip ?_
              repeat (with_reducible first | refine thenNil ?_ | refine blockNil ?_)
              refine AWp.region ?_
              refine AOps.run hT true rfl ?_ ?_
              · repeat' (first | exact trivial | exact Bool.not_or_self _ | refine And.intro ?_ ?_ | (simp; done) | (simp_all; done) | (simp [inR_i64] at *; omega) | decide)
              refine AOps.nil ?_
              repeat (with_reducible first | refine thenNil ?_ | refine blockNil ?_)
              refine Exists.intro ((x + 1, bif fd then true else pe ((numA (mkM bs) (mkP bs)).getD x.toNat default) (mkP bs))) (And.intro (And.intro ?_ ?_) ?_)
              · simp at *; omega
              · exact ⟨by omega, by omega, by rw [any_succ _ h0 hc5, ← h2]; cases fd <;> rfl⟩
              · refine ⟨?_, ?_, rfl, rfl, fun k hk => Nat.lt_of_lt_of_le (hfx k hk) (Nat.le_of_ble_eq_true rfl)⟩
                · repeat' (first | exact Sub.nil | exact rfl | refine Sub.cons ?_ ?_)
                · repeat' (first | exact HTr.nil | exact objEq_refl _ | exact objEq_app1 | exact objEq_nil | exact objEq_mapP | exact objEq_mapI |  exact objEq_set (by first | omega | (simp; omega)) | exact objEq_appS (by simp) (appF_S rfl (fun _ _ => rfl)) | refine HTr.cons ?_ ?_ | refine HTr.dead rfl ?_)
          · try simp only [decide_eq_true_eq, decide_eq_false_iff_not] at hc5
            refine AWp.exit ?_
            repeat (with_reducible first | refine thenExit ?_ | refine blockSame ?_ | refine blockOther rfl ?_ | refine thenNil ?_ | refine blockNil ?_)
            refine AWp.seq ?_
            refine AWp.region ?_
            refine AOps.run hT true rfl ?_ ?_
            · repeat' (first | exact trivial | exact Bool.not_or_self _ | refine And.intro ?_ ?_ | (simp; done) | (simp_all; done) | (simp [inR_i64] at *; omega) | decide)
            refine AOps.callG (T := T) rfl rfl rfl rfl rfl (fun hg => ?_) (fun hg => AFn.freeze1 (AfterAnswer_fn (numB (mkM bs) (mkP bs)) (numX (mkM bs) (mkP bs)) false hBl)) (.inr rfl) rfl ?_
            · repeat' (first | exact trivial | exact Bool.not_or_self _ | refine And.intro ?_ ?_ | (simp; done) | (simp_all; done) | (simp [inR_i64] at *; omega) | decide)
            refine AOps.run hT true rfl ?_ ?_
            · repeat' (first | exact trivial | exact Bool.not_or_self _ | refine And.intro ?_ ?_ | (simp; done) | (simp_all; done) | (simp [inR_i64] at *; omega) | decide)
            refine AOps.nil ?_
            repeat (with_reducible first | refine thenNil ?_ | refine blockNil ?_)
            refine AWp.ret ?_
            repeat (with_reducible first | refine thenRet ?_ | refine blockRet ?_)
            refine EndsIn.ret rfl ?_ ?_
            · repeat' (first | exact trivial | exact Bool.not_or_self _ | refine And.intro ?_ ?_ | (simp; done) | (simp_all; done) | (simp [inR_i64] at *; omega) | decide)
            refine ⟨[], ?_, rfl, rfl, rfl⟩
            rw [take_all hc5] at h2; rw [show fd = true from h2.trans hC3]; exact congrArg (fun z => AV.i (cb z)) (by first | exact (beq_iff_eq.2 hE).symm | simpa using hE.symm)

end Go.AMA
