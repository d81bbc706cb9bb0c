/- Contracts of functions of the program, for the claims of this seat. -/
import Derived.Test.YtciempegimofhaaA6
import Derived.Test.YtciempegimofhaaAm3
set_option linter.unusedSectionVars false
set_option linter.unusedSimpArgs false
set_option linter.unusedVariables false
set_option linter.unnecessarySimpa false
namespace Go.AMA
open Go.AM
def cy (n : Int) : IV := .c (.int .u8 n)
abbrev lY (l : List Int) : IV := lsl 1 cy l
abbrev cu (bs : List Int) (pos s : Int) : AObj := .box 97 [.i (lY bs), .i (ci pos), .i (ci s)]
def sd (s : Int) : Int := IntKind.wrap .i64 (IntKind.wrap .i64 (s * 6364136223846793005) + 1442695040888963407)
def by0 (s : Int) : Int := bitI .and .i64 (bitI .xor .i64 (shrI .i64 s 33) (shrI .i64 s 45)) 255
def byB (bs : List Int) (pos s : Int) : Int := if pos < bs.length then bitI .and .i64 (IntKind.wrap .i64 (by0 (sd s) + IntKind.wrap .i64 (bs.getD pos.toNat default))) 255 else by0 (sd s)
def byP (bs : List Int) (pos : Int) : Int := if pos < bs.length then pos + 1 else pos
theorem byP_nn {bs : List Int} {pos : Int} (h : 0 ≤ pos) : 0 ≤ byP bs pos := by unfold byP; split <;> omega
theorem and255 (z : Int) : 0 ≤ bitI .and .i64 z 255 ∧ bitI .and .i64 z 255 ≤ 255 := by
  have h1 : (BitVec.ofInt IntKind.i64.bits z &&& BitVec.ofInt IntKind.i64.bits 255).toNat ≤ 255 := by
    rw [BitVec.toNat_and]; exact Nat.and_le_right
  have h2 : bitI .and .i64 z 255 = ((BitVec.ofInt IntKind.i64.bits z &&& BitVec.ofInt IntKind.i64.bits 255).toNat : Int) := by
    show IntKind.wrap .i64 _ = _
    exact wrap_of_inR (by rw [inR_i64, decide_eq_true_eq]; omega)
  omega
theorem byB_range (bs : List Int) (pos s : Int) : 0 ≤ byB bs pos s ∧ byB bs pos s ≤ 255 := by
  unfold byB; split
  · exact and255 _
  · exact and255 _
def sdStep (s b : Int) : Int := bitI .and .i64 (IntKind.wrap .i64 (IntKind.wrap .i64 (IntKind.wrap .i64 (s * 113) + IntKind.wrap .i64 b) + 7)) 1073741823
def seedT (bs : List Int) (n : Nat) : Int := (bs.take n).foldl sdStep (2074 + bs.length)
def seedN (bs : List Int) : Int := seedT bs 4000
theorem seedT_succ {bs : List Int} {x : Int} (h0 : 0 ≤ x) (h1 : x < bs.length) : seedT bs (x + 1).toNat = sdStep (seedT bs x.toNat) (bs.getD x.toNat default) := by
  unfold seedT; rw [take_succ h0 h1, List.foldl_append]; rfl
theorem seedT_end {bs : List Int} {x : Int} (h0 : 0 ≤ x) (h1 : x ≤ bs.length) (h2 : x ≤ 4000) (h : ¬ (x < bs.length ∧ x < 4000)) : seedT bs x.toNat = seedN bs := by
  unfold seedN seedT
  by_cases e : x = 4000
  · subst e; rfl
  · rw [List.take_of_length_le (by omega), List.take_of_length_le (by omega)]
def curIt (bs : List Int) : Nat → Int × Int
  | 0 => (0, seedN bs)
  | n + 1 => (byP bs (curIt bs n).1, sd (curIt bs n).2)
def numF (bs : List Int) (n : Nat) : Int := byB bs (curIt bs n).1 (curIt bs n).2 * 256 + byB bs (curIt bs (n + 1)).1 (curIt bs (n + 1)).2
theorem curIt_nn (bs : List Int) : ∀ n, 0 ≤ (curIt bs n).1
  | 0 => Int.le_refl _
  | n + 1 => byP_nn (curIt_nn bs n)
theorem numF_range (bs : List Int) (n : Nat) : 0 ≤ numF bs n ∧ numF bs n ≤ 65535 := by
  have h1 := byB_range bs (curIt bs n).1 (curIt bs n).2
  have h2 := byB_range bs (curIt bs (n + 1)).1 (curIt bs (n + 1)).2
  unfold numF; omega
theorem allP_length {most : Int} (h : 1 ≤ most) (h' : most ≤ 40) : ((allP most).length : Int) = 2 * most := by
  unfold allP
  rw [if_pos ⟨h, h'⟩]
  have key : ∀ n : Nat, (n : Int) ≤ most + 1 → ((allRows most n).length : Int) = if n = 0 then (0 : Int) else if (n : Int) ≤ most then 2 * (n : Int) - 1 else 2 * most := by
    intro n
    induction n with
    | zero => intro _; simp [allRows]
    | succ n ih =>
      intro hn
      have h1 := ih (by omega)
      have e : allRows most (n + 1) = allRows most n ++ allRow most n := by simp [allRows, List.range_succ, List.flatMap_append]
      rw [e, List.length_append, Int.natCast_add, h1]
      unfold allRow
      (repeat' split) <;> simp only [List.length_append, List.length_cons, List.length_nil] <;> omega
  have := key (most + 1).toNat (by omega)
  rw [this, if_neg (by omega), if_neg (by omega)]
def mkM (bs : List Int) : Int := 1 + (byB bs 0 (seedN bs)).tmod 12
def mkJ (bs : List Int) : Int := (byB bs (curIt bs 1).1 (curIt bs 1).2).tmod (allP (mkM bs)).length
def mkP (bs : List Int) : Int × Int := (allP (mkM bs)).getD (mkJ bs).toNat default
theorem tmod_range {b n : Int} (hb : 0 ≤ b) (hn : 1 ≤ n) : 0 ≤ b.tmod n ∧ b.tmod n < n := by
  rw [Int.tmod_eq_emod_of_nonneg hb]
  exact ⟨Int.emod_nonneg _ (by omega), Int.emod_lt_of_pos _ (by omega)⟩
theorem mkM_range (bs : List Int) : 1 ≤ mkM bs ∧ mkM bs ≤ 12 := by
  have := tmod_range (b := byB bs 0 (seedN bs)) (n := 12) (byB_range _ _ _).1 (by omega)
  unfold mkM; omega
theorem mkJ_range (bs : List Int) : 0 ≤ mkJ bs ∧ mkJ bs < (allP (mkM bs)).length := by
  have h := mkM_range bs
  have h2 := allP_length (most := mkM bs) h.1 (by omega)
  exact tmod_range (byB_range _ _ _).1 (by omega)
theorem mkP_mem (bs : List Int) : mkP bs ∈ allP (mkM bs) := mem_take (mkJ_range bs).1 (mkJ_range bs).2


set_option maxRecDepth 20000 in
set_option maxHeartbeats 1000000 in
theorem l01Byte_fn (bs : List Int) (pos s : Int) (hb : bs.length ≤ 1048576) (hp : 0 ≤ pos) : AFnH P 97 [.optr 0 0] [cu bs pos s] (.i (ci (byB bs pos s))) [cu bs (byP bs pos) (sd s)] := by
  refine AFnH.of_body Tok 58 Go.Proofs.Try.func97 rfl rfl rfl (by simp) rfl ?_
  rintro ⟨_, _, w0, I0, O0, X0, fx⟩ rfl rfl hT hfx
  refine AWp.seq ?_
  refine AWp.region ?_
  refine AOps.run hT true rfl ?_ ?_
  · repeat' (first | exact trivial | exact Bool.not_or_self _ | refine And.intro ?_ ?_ | (simp; done) | (simp_all; done) | (simp [inR_i64] at *; omega) | decide)
  refine AOps.nil ?_
  repeat (with_reducible first | refine thenNil ?_ | refine blockNil ?_)
  refine AWp.seq ?_
  refine AWp.region ?_
  refine AOps.run hT false rfl ?_ ?_
  · repeat' (first | exact trivial | exact Bool.not_or_self _ | refine And.intro ?_ ?_ | (simp; done) | (simp_all; done) | (simp [inR_i64] at *; omega) | decide)
  refine AOps.nil ?_
  repeat (with_reducible first | refine thenNil ?_ | refine blockNil ?_)
  refine AWp.seq ?_
  refine AWp.wk (env' := [(0, .optr 0 0)]) (H' := [cu bs pos (sd s)]) ⟨?_, ?_, rfl, rfl, fun k hk => Nat.lt_of_lt_of_le (hfx k hk) (Nat.le_of_ble_eq_true rfl)⟩ ?_
  · repeat' (first | exact Sub.nil | exact rfl | refine Sub.cons ?_ ?_)
  · repeat' (first | exact HTr.nil | exact objEq_refl _ | exact objEq_app1 | exact objEq_nil | exact objEq_mapP | exact objEq_mapI |  exact objEq_set (by first | omega | (simp; omega)) | exact objEq_appS (by simp) (appF_S rfl (fun _ _ => rfl)) | refine HTr.cons ?_ ?_ | refine HTr.dead rfl ?_)
  refine AWp.regionAny mixed [[], [0], [0, 1], [0, 1, 2], [0, 1, 2, 3], [], [5], [5, 6], [5, 6, 7], [5, 6, 7, 8], [0, 1, 2, 3, 4, 5, 6, 7, 8, 9], [0, 1, 2, 3, 4, 5, 6, 7, 8, 9, 10], [0, 1, 2, 3, 4, 5, 6, 7, 8, 9, 10, 11]] [] [_, _, _, _, _, _, _, _, _, _, _, _, _] [_] rfl (by decide) rfl ⟨⟨OpStep.of_astep hT (nw := false) rfl ⟨_, rfl, rfl⟩ ?_, trivial⟩, ⟨OpStep.of_astep hT (nw := false) rfl ⟨_, rfl, rfl⟩ ?_, trivial⟩, ⟨OpStep.of_astep hT (nw := false) rfl ⟨_, rfl, rfl⟩ ?_, trivial⟩, ⟨OpStep.of_astep hT (nw := false) rfl ⟨_, rfl, rfl⟩ ?_, trivial⟩, ⟨OpStep.of_astep hT (nw := false) rfl ⟨_, rfl, rfl⟩ ?_, trivial⟩, ⟨OpStep.of_astep hT (nw := false) rfl ⟨_, rfl, rfl⟩ ?_, trivial⟩, ⟨OpStep.of_astep hT (nw := false) rfl ⟨_, rfl, rfl⟩ ?_, trivial⟩, ⟨OpStep.of_astep hT (nw := false) rfl ⟨_, rfl, rfl⟩ ?_, trivial⟩, ⟨OpStep.of_astep hT (nw := false) rfl ⟨_, rfl, rfl⟩ ?_, trivial⟩, ⟨OpStep.of_astep hT (nw := false) rfl ⟨_, rfl, rfl⟩ ?_, trivial⟩, ⟨OpStep.of_astep hT (nw := false) rfl ⟨_, rfl, rfl⟩ ?_, trivial⟩, ⟨OpStep.of_astep hT (nw := false) rfl ⟨_, rfl, rfl⟩ ?_, trivial⟩, ⟨OpStep.of_astep hT (nw := false) rfl ⟨_, rfl, rfl⟩ ?_, trivial⟩, trivial⟩ ?_
  · repeat' (first | exact trivial | exact Bool.not_or_self _ | refine And.intro ?_ ?_ | (simp; done) | (simp_all; done) | (simp [inR_i64] at *; omega) | decide)
  · repeat' (first | exact trivial | exact Bool.not_or_self _ | refine And.intro ?_ ?_ | (simp; done) | (simp_all; done) | (simp [inR_i64] at *; omega) | decide)
  · repeat' (first | exact trivial | exact Bool.not_or_self _ | refine And.intro ?_ ?_ | (simp; done) | (simp_all; done) | (simp [inR_i64] at *; omega) | decide)
  · repeat' (first | exact trivial | exact Bool.not_or_self _ | refine And.intro ?_ ?_ | (simp; done) | (simp_all; done) | (simp [inR_i64] at *; omega) | decide)
  · repeat' (first | exact trivial | exact Bool.not_or_self _ | refine And.intro ?_ ?_ | (simp; done) | (simp_all; done) | (simp [inR_i64] at *; omega) | decide)
  · repeat' (first | exact trivial | exact Bool.not_or_self _ | refine And.intro ?_ ?_ | (simp; done) | (simp_all; done) | (simp [inR_i64] at *; omega) | decide)
  · repeat' (first | exact trivial | exact Bool.not_or_self _ | refine And.intro ?_ ?_ | (simp; done) | (simp_all; done) | (simp [inR_i64] at *; omega) | decide)
  · repeat' (first | exact trivial | exact Bool.not_or_self _ | refine And.intro ?_ ?_ | (simp; done) | (simp_all; done) | (simp [inR_i64] at *; omega) | decide)
  · repeat' (first | exact trivial | exact Bool.not_or_self _ | refine And.intro ?_ ?_ | (simp; done) | (simp_all; done) | (simp [inR_i64] at *; omega) | decide)
  · repeat' (first | exact trivial | exact Bool.not_or_self _ | refine And.intro ?_ ?_ | (simp; done) | (simp_all; done) | (simp [inR_i64] at *; omega) | decide)
  · repeat' (first | exact trivial | exact Bool.not_or_self _ | refine And.intro ?_ ?_ | (simp; done) | (simp_all; done) | (simp [inR_i64] at *; omega) | decide)
  · repeat' (first | exact trivial | exact Bool.not_or_self _ | refine And.intro ?_ ?_ | (simp; done) | (simp_all; done) | (simp [inR_i64] at *; omega) | decide)
  · repeat' (first | exact trivial | exact Bool.not_or_self _ | refine And.intro ?_ ?_ | (simp; done) | (simp_all; done) | (simp [inR_i64] at *; omega) | decide)
  repeat (with_reducible first | refine thenNil ?_ | refine blockNil ?_)
  refine AWp.seq ?_
  refine AWp.seq ?_
  refine AWp.wk (env' := [(0, .optr 0 0), (3, .i (ci (by0 (sd s))))]) (H' := [cu bs pos (sd s)]) ⟨?_, ?_, rfl, rfl, fun k hk => Nat.lt_of_lt_of_le (hfx k hk) (Nat.le_of_ble_eq_true rfl)⟩ ?_
  · repeat' (first | exact Sub.nil | exact rfl | refine Sub.cons ?_ ?_)
  · repeat' (first | exact HTr.nil | exact objEq_refl _ | exact objEq_app1 | exact objEq_nil | exact objEq_mapP | exact objEq_mapI |  exact objEq_set (by first | omega | (simp; omega)) | exact objEq_appS (by simp) (appF_S rfl (fun _ _ => rfl)) | refine HTr.cons ?_ ?_ | refine HTr.dead rfl ?_)
  refine AWp.regionAny mixed [[], [0], [0, 1], [0, 1, 2], [], [4], [4, 5], [4, 5, 6], [4, 5, 6, 7], [0, 1, 2, 3, 4, 5, 6, 7, 8]] [] [_, _, _, _, _, _, _, _, _, _] [_] rfl (by decide) rfl ⟨⟨OpStep.of_astep hT (nw := true) rfl ⟨_, rfl, rfl⟩ ?_, trivial⟩, ⟨OpStep.of_astep hT (nw := true) rfl ⟨_, rfl, rfl⟩ ?_, trivial⟩, ⟨OpStep.of_astep hT (nw := true) rfl ⟨_, rfl, rfl⟩ ?_, trivial⟩, ⟨OpStep.of_astep hT (nw := true) rfl ⟨_, rfl, rfl⟩ ?_, trivial⟩, ⟨OpStep.of_astep hT (nw := true) rfl ⟨_, rfl, rfl⟩ ?_, trivial⟩, ⟨OpStep.of_astep hT (nw := true) rfl ⟨_, rfl, rfl⟩ ?_, trivial⟩, ⟨OpStep.of_astep hT (nw := true) rfl ⟨_, rfl, rfl⟩ ?_, trivial⟩, ⟨OpStep.of_astep hT (nw := true) rfl ⟨_, rfl, rfl⟩ ?_, trivial⟩, ⟨OpStep.of_astep hT (nw := true) rfl ⟨_, rfl, rfl⟩ ?_, trivial⟩, ⟨OpStep.of_astep hT (nw := true) rfl ⟨_, rfl, rfl⟩ ?_, trivial⟩, trivial⟩ ?_
  · repeat' (first | exact trivial | exact Bool.not_or_self _ | refine And.intro ?_ ?_ | (simp; done) | (simp_all; done) | (simp [inR_i64] at *; omega) | decide)
  · repeat' (first | exact trivial | exact Bool.not_or_self _ | refine And.intro ?_ ?_ | (simp; done) | (simp_all; done) | (simp [inR_i64] at *; omega) | decide)
  · repeat' (first | exact trivial | exact Bool.not_or_self _ | refine And.intro ?_ ?_ | (simp; done) | (simp_all; done) | (simp [inR_i64] at *; omega) | decide)
  · repeat' (first | exact trivial | exact Bool.not_or_self _ | refine And.intro ?_ ?_ | (simp; done) | (simp_all; done) | (simp [inR_i64] at *; omega) | decide)
  · repeat' (first | exact trivial | exact Bool.not_or_self _ | refine And.intro ?_ ?_ | (simp; done) | (simp_all; done) | (simp [inR_i64] at *; omega) | decide)
  · repeat' (first | exact trivial | exact Bool.not_or_self _ | refine And.intro ?_ ?_ | (simp; done) | (simp_all; done) | (simp [inR_i64] at *; omega) | decide)
  · repeat' (first | exact trivial | exact Bool.not_or_self _ | refine And.intro ?_ ?_ | (simp; done) | (simp_all; done) | (simp [inR_i64] at *; omega) | decide)
  · repeat' (first | exact trivial | exact Bool.not_or_self _ | refine And.intro ?_ ?_ | (simp; done) | (simp_all; done) | (simp [inR_i64] at *; omega) | decide)
  · repeat' (first | exact trivial | exact Bool.not_or_self _ | refine And.intro ?_ ?_ | (simp; done) | (simp_all; done) | (simp [inR_i64] at *; omega) | decide)
  · repeat' (first | exact trivial | exact Bool.not_or_self _ | refine And.intro ?_ ?_ | (simp; done) | (simp_all; done) | (simp [inR_i64] at *; omega) | decide)
  repeat (with_reducible first | refine thenNil ?_ | refine blockNil ?_)
  refine AWp.cond rfl ?_ (fun hc0 => ?_) (fun hc0 => ?_)
  · repeat' (first | exact trivial | exact Bool.not_or_self _ | refine And.intro ?_ ?_ | (simp; done) | (simp_all; done) | (simp [inR_i64] at *; omega) | decide)
  · try simp only [decide_eq_true_eq, decide_eq_false_iff_not] at hc0
    refine AWp.seq ?_
    refine AWp.wk (env' := [(0, .optr 0 0), (3, .i (ci (by0 (sd s))))]) (H' := [cu bs pos (sd s)]) ⟨?_, ?_, rfl, rfl, fun k hk => Nat.lt_of_lt_of_le (hfx k hk) (Nat.le_of_ble_eq_true rfl)⟩ ?_
    · repeat' (first | exact Sub.nil | exact rfl | refine Sub.cons ?_ ?_)
    · repeat' (first | exact HTr.nil | exact objEq_refl _ | exact objEq_app1 | exact objEq_nil | exact objEq_mapP | exact objEq_mapI |  exact objEq_set (by first | omega | (simp; omega)) | exact objEq_appS (by simp) (appF_S rfl (fun _ _ => rfl)) | refine HTr.cons ?_ ?_ | refine HTr.dead rfl ?_)
    refine AWp.regionAny mixed [[], [], [1], [1, 2], [1, 2, 3], [], [5], [5, 6], [5, 6, 7], [1, 2, 3, 4, 5, 6, 7, 8], [1, 2, 3, 4, 5, 6, 7, 8, 9], [1, 2, 3, 4, 5, 6, 7, 8, 9, 10], [0, 1, 2, 3, 4, 5, 6, 7, 8, 9, 10, 11], [0, 1, 2, 3, 4, 5, 6, 7, 8, 9, 10, 11, 12], [0, 1, 2, 3, 4, 5, 6, 7, 8, 9, 10, 11, 12, 13]] [] [_, _, _, _, _, _, _, _, _, _, _, _, _, _, _] [_] rfl (by decide) rfl ⟨⟨OpStep.of_astep hT (nw := false) rfl ⟨_, rfl, rfl⟩ ?_, trivial⟩, ⟨OpStep.of_astep hT (nw := false) rfl ⟨_, rfl, rfl⟩ ?_, trivial⟩, ⟨OpStep.of_astep hT (nw := false) rfl ⟨_, rfl, rfl⟩ ?_, trivial⟩, ⟨OpStep.of_astep hT (nw := false) rfl ⟨_, rfl, rfl⟩ ?_, trivial⟩, ⟨OpStep.of_astep hT (nw := false) rfl ⟨_, rfl, rfl⟩ ?_, trivial⟩, ⟨OpStep.of_astep hT (nw := false) rfl ⟨_, rfl, rfl⟩ ?_, trivial⟩, ⟨OpStep.of_astep hT (nw := false) rfl ⟨_, rfl, rfl⟩ ?_, trivial⟩, ⟨OpStep.of_astep hT (nw := false) rfl ⟨_, rfl, rfl⟩ ?_, trivial⟩, ⟨OpStep.of_astep hT (nw := false) rfl ⟨_, rfl, rfl⟩ ?_, trivial⟩, ⟨OpStep.of_astep hT (nw := false) rfl ⟨_, rfl, rfl⟩ ?_, trivial⟩, ⟨OpStep.of_astep hT (nw := false) rfl ⟨_, rfl, rfl⟩ ?_, trivial⟩, ⟨OpStep.of_astep hT (nw := false) rfl ⟨_, rfl, rfl⟩ ?_, trivial⟩, ⟨OpStep.of_astep hT (nw := false) rfl ⟨_, rfl, rfl⟩ ?_, trivial⟩, ⟨OpStep.of_astep hT (nw := false) rfl ⟨_, rfl, rfl⟩ ?_, trivial⟩, ⟨OpStep.of_astep hT (nw := false) rfl ⟨_, rfl, rfl⟩ ?_, trivial⟩, trivial⟩ ?_
    · repeat' (first | exact trivial | exact Bool.not_or_self _ | refine And.intro ?_ ?_ | (simp; done) | (simp_all; done) | (simp [inR_i64] at *; omega) | decide)
    · repeat' (first | exact trivial | exact Bool.not_or_self _ | refine And.intro ?_ ?_ | (simp; done) | (simp_all; done) | (simp [inR_i64] at *; omega) | decide)
    · repeat' (first | exact trivial | exact Bool.not_or_self _ | refine And.intro ?_ ?_ | (simp; done) | (simp_all; done) | (simp [inR_i64] at *; omega) | decide)
    · repeat' (first | exact trivial | exact Bool.not_or_self _ | refine And.intro ?_ ?_ | (simp; done) | (simp_all; done) | (simp [inR_i64] at *; omega) | decide)
    · repeat' (first | exact trivial | exact Bool.not_or_self _ | refine And.intro ?_ ?_ | (simp; done) | (simp_all; done) | (simp [inR_i64] at *; omega) | decide)
    · repeat' (first | exact trivial | exact Bool.not_or_self _ | refine And.intro ?_ ?_ | (simp; done) | (simp_all; done) | (simp [inR_i64] at *; omega) | decide)
    · repeat' (first | exact trivial | exact Bool.not_or_self _ | refine And.intro ?_ ?_ | (simp; done) | (simp_all; done) | (simp [inR_i64] at *; omega) | decide)
    · repeat' (first | exact trivial | exact Bool.not_or_self _ | refine And.intro ?_ ?_ | (simp; done) | (simp_all; done) | (simp [inR_i64] at *; omega) | decide)
    · repeat' (first | exact trivial | exact Bool.not_or_self _ | refine And.intro ?_ ?_ | (simp; done) | (simp_all; done) | (simp [inR_i64] at *; omega) | decide)
    · repeat' (first | exact trivial | exact Bool.not_or_self _ | refine And.intro ?_ ?_ | (simp; done) | (simp_all; done) | (simp [inR_i64] at *; omega) | decide)
    · repeat' (first | exact trivial | exact Bool.not_or_self _ | refine And.intro ?_ ?_ | (simp; done) | (simp_all; done) | (simp [inR_i64] at *; omega) | decide)
    · repeat' (first | exact trivial | exact Bool.not_or_self _ | refine And.intro ?_ ?_ | (simp; done) | (simp_all; done) | (simp [inR_i64] at *; omega) | decide)
    · repeat' (first | exact trivial | exact Bool.not_or_self _ | refine And.intro ?_ ?_ | (simp; done) | (simp_all; done) | (simp [inR_i64] at *; omega) | decide)
    · repeat' (first | exact trivial | exact Bool.not_or_self _ | refine And.intro ?_ ?_ | (simp; done) | (simp_all; done) | (simp [inR_i64] at *; omega) | decide)
    · repeat' (first | exact trivial | exact Bool.not_or_self _ | refine And.intro ?_ ?_ | (simp; done) | (simp_all; done) | (simp [inR_i64] at *; omega) | decide)
    repeat (with_reducible first | refine thenNil ?_ | refine blockNil ?_)
    refine AWp.region ?_
    refine AOps.run hT true rfl ?_ ?_
    · repeat' (first | exact trivial | exact Bool.not_or_self _ | refine And.intro ?_ ?_ | (simp; done) | (simp_all; done) | (simp [inR_i64] at *; omega) | decide)
    refine AOps.nil ?_
    repeat (with_reducible first | refine thenNil ?_ | refine blockNil ?_)
    refine AWp.seq ?_
    refine AWp.region ?_
    refine AOps.run hT true rfl ?_ ?_
    · repeat' (first | exact trivial | exact Bool.not_or_self _ | refine And.intro ?_ ?_ | (simp; done) | (simp_all; done) | (simp [inR_i64] at *; omega) | decide)
    refine AOps.nil ?_
    repeat (with_reducible first | refine thenNil ?_ | refine blockNil ?_)
    rw [show byB bs pos s = _ from if_pos hc0, show byP bs pos = _ from if_pos hc0]
    refine AWp.ret ?_
    repeat (with_reducible first | refine thenRet ?_ | refine blockRet ?_)
    refine EndsIn.ret rfl ?_ ?_
    · repeat' (first | exact trivial | exact Bool.not_or_self _ | refine And.intro ?_ ?_ | (simp; done) | (simp_all; done) | (simp [inR_i64] at *; omega) | decide)
    refine ⟨[0], rfl, ⟨_, _, _, rfl, rfl, rfl, ?_, rfl⟩, rfl, rfl, rfl⟩
    exact rfl
  · try simp only [decide_eq_true_eq, decide_eq_false_iff_not] at hc0
    refine AWp.skip ?_
    repeat (with_reducible first | refine thenNil ?_ | refine blockNil ?_)
    refine AWp.seq ?_
    refine AWp.region ?_
    refine AOps.run hT true rfl ?_ ?_
    · repeat' (first | exact trivial | exact Bool.not_or_self _ | refine And.intro ?_ ?_ | (simp; done) | (simp_all; done) | (simp [inR_i64] at *; omega) | decide)
    refine AOps.nil ?_
    repeat (with_reducible first | refine thenNil ?_ | refine blockNil ?_)
    rw [show byB bs pos s = _ from if_neg hc0, show byP bs pos = _ from if_neg hc0]
    refine AWp.ret ?_
    repeat (with_reducible first | refine thenRet ?_ | refine blockRet ?_)
    refine EndsIn.ret rfl ?_ ?_
    · repeat' (first | exact trivial | exact Bool.not_or_self _ | refine And.intro ?_ ?_ | (simp; done) | (simp_all; done) | (simp [inR_i64] at *; omega) | decide)
    refine ⟨[0], rfl, ⟨_, _, _, rfl, rfl, rfl, ?_, rfl⟩, rfl, rfl, rfl⟩
    exact rfl

set_option maxRecDepth 20000 in
theorem l01New_fn (bs : List Int) (hb : bs.length ≤ 1048576) : AFn P 102 [lY bs] (.optr 0 0) [cu bs 0 (seedN bs)] := by
  refine AFnH.of_body Tok 32 Go.Proofs.Try.func102 rfl rfl rfl (by simp) rfl ?_
  rintro ⟨_, _, w0, I0, O0, X0, fx⟩ rfl rfl hT hfx
  refine AWp.seq ?_
  refine AWp.region ?_
  refine AOps.run hT true rfl ?_ ?_
  · repeat' (first | exact trivial | exact Bool.not_or_self _ | refine And.intro ?_ ?_ | (simp; done) | (simp_all; done) | (simp [inR_i64] at *; omega) | decide)
  refine AOps.nil ?_
  repeat (with_reducible first | refine thenNil ?_ | refine blockNil ?_)
  refine AWp.seq ?_
  refine AWp.region ?_
  refine AOps.run hT true rfl ?_ ?_
  · repeat' (first | exact trivial | exact Bool.not_or_self _ | refine And.intro ?_ ?_ | (simp; done) | (simp_all; done) | (simp [inR_i64] at *; omega) | decide)
  refine AOps.nil ?_
  repeat (with_reducible first | refine thenNil ?_ | refine blockNil ?_)
  refine AWp.seq ?_
  refine AWp.seq ?_
  refine AWp.region ?_
  refine AOps.run hT true rfl ?_ ?_
  · repeat' (first | exact trivial | exact Bool.not_or_self _ | refine And.intro ?_ ?_ | (simp; done) | (simp_all; done) | (simp [inR_i64] at *; omega) | decide)
  refine AOps.nil ?_
  repeat (with_reducible first | refine thenNil ?_ | refine blockNil ?_)
  refine AWp.block ?_
  refine AWp.loopS (σ := Int × Int) (fun (x, _) => (bs.length - x).toNat) (fun (x, s) => [(0, .i (lY bs)), (3, .i (ci s)), (4, .i (ci x))]) (fun _ => []) (fun (x, s) => 0 ≤ x ∧ x ≤ bs.length ∧ x ≤ 4000 ∧ s = seedT bs x.toNat) ((0, 2074 + bs.length)) ?_ ?_ ?_
  · refine ⟨?_, ?_, rfl, rfl, fun k hk => Nat.lt_of_lt_of_le (hfx k hk) (Nat.le_of_ble_eq_true rfl)⟩
    · repeat' (first | exact Sub.nil | exact rfl | refine Sub.cons ?_ ?_)
    · repeat' (first | exact HTr.nil | exact objEq_refl _ | exact objEq_app1 | exact objEq_nil | exact objEq_mapP | exact objEq_mapI |  exact objEq_set (by first | omega | (simp; omega)) | exact objEq_appS (by simp) (appF_S rfl (fun _ _ => rfl)) | refine HTr.cons ?_ ?_ | refine HTr.dead rfl ?_)
  · exact ⟨by omega, by omega, by omega, rfl⟩
  rintro ⟨x, s⟩ ⟨h0, h1, h2, h3⟩
  refine AWp.seq ?_
  refine AWp.seq ?_
  refine AWp.region ?_
  refine AOps.run hT true rfl ?_ ?_
  · repeat' (first | exact trivial | exact Bool.not_or_self _ | refine And.intro ?_ ?_ | (simp; done) | (simp_all; done) | (simp [inR_i64] at *; omega) | decide)
  refine AOps.nil ?_
  repeat (with_reducible first | refine thenNil ?_ | refine blockNil ?_)
  refine AWp.cond rfl ?_ (fun hc0 => ?_) (fun hc0 => ?_)
  · repeat' (first | exact trivial | exact Bool.not_or_self _ | refine And.intro ?_ ?_ | (simp; done) | (simp_all; done) | (simp [inR_i64] at *; omega) | decide)
  · try simp only [decide_eq_true_eq, decide_eq_false_iff_not] at hc0
    refine AWp.skip ?_
    repeat (with_reducible first | refine thenNil ?_ | refine blockNil ?_)
    refine AWp.seq ?_
    refine AWp.block ?_
    have hx : x < bs.length ∧ x < 4000 := by rw [cond_and, Bool.and_eq_true, decide_eq_true_eq, decide_eq_true_eq] at hc0; exact hc0
    refine AWp.region ?_
    refine AOps.run hT false rfl ?_ ?_
    · repeat' (first | exact trivial | exact Bool.not_or_self _ | refine And.intro ?_ ?_ | (simp; done) | (simp_all; done) | (simp [inR_i64] at *; omega) | decide)
    refine AOps.nil ?_
    repeat (with_reducible first | refine thenNil ?_ | refine blockNil ?_)
    refine AWp.region ?_
    refine AOps.run hT true rfl ?_ ?_
    · repeat' (first | exact trivial | exact Bool.not_or_self _ | refine And.intro ?_ ?_ | (simp; done) | (simp_all; done) | (simp [inR_i64] at *; omega) | decide)
    refine AOps.nil ?_
    repeat (with_reducible first | refine thenNil ?_ | refine blockNil ?_)
    refine Exists.intro ((x + 1, sdStep s (bs.getD x.toNat default))) (And.intro (And.intro ?_ ?_) ?_)
    · simp at *; omega
    · exact ⟨by omega, by omega, by omega, by rw [seedT_succ h0 hx.1, h3]⟩
    · refine ⟨?_, ?_, rfl, rfl, fun k hk => Nat.lt_of_lt_of_le (hfx k hk) (Nat.le_of_ble_eq_true rfl)⟩
      · repeat' (first | exact Sub.nil | exact rfl | refine Sub.cons ?_ ?_)
      · repeat' (first | exact HTr.nil | exact objEq_refl _ | exact objEq_app1 | exact objEq_nil | exact objEq_mapP | exact objEq_mapI |  exact objEq_set (by first | omega | (simp; omega)) | exact objEq_appS (by simp) (appF_S rfl (fun _ _ => rfl)) | refine HTr.cons ?_ ?_ | refine HTr.dead rfl ?_)
  · try simp only [decide_eq_true_eq, decide_eq_false_iff_not] at hc0
    refine AWp.exit ?_
    repeat (with_reducible first | refine thenExit ?_ | refine blockSame ?_ | refine blockOther rfl ?_ | refine thenNil ?_ | refine blockNil ?_)
    refine AWp.seq ?_
    have hx : ¬ (x < bs.length ∧ x < 4000) := by rw [cond_and] at hc0; intro hx; rw [decide_eq_true hx.1, decide_eq_true hx.2] at hc0; cases hc0
    refine AWp.region ?_
    refine AOps.run hT true rfl ?_ ?_
    · repeat' (first | exact trivial | exact Bool.not_or_self _ | refine And.intro ?_ ?_ | (simp; done) | (simp_all; done) | (simp [inR_i64] at *; omega) | decide)
    refine AOps.nil ?_
    repeat (with_reducible first | refine thenNil ?_ | refine blockNil ?_)
    rw [show seedN bs = s by rw [h3, seedT_end h0 h1 h2 hx]]
    refine AWp.ret ?_
    repeat (with_reducible first | refine thenRet ?_ | refine blockRet ?_)
    refine EndsIn.ret rfl ?_ ?_
    · repeat' (first | exact trivial | exact Bool.not_or_self _ | refine And.intro ?_ ?_ | (simp; done) | (simp_all; done) | (simp [inR_i64] at *; omega) | decide)
    refine ⟨[0], rfl, ⟨_, _, _, rfl, rfl, rfl, ?_, rfl⟩, rfl, rfl, rfl⟩
    exact rfl

set_option maxRecDepth 20000 in
theorem l19New_fn (bs : List Int) (n : Nat) (hb : bs.length ≤ 1048576) (hn : n ≤ 1048576) : AFn P 96 [lY bs, ci n] (.optr 0 0) [cu bs (curIt bs n).1 (curIt bs n).2] := by
  refine AFnH.of_body Tok 17 Go.Proofs.Try.func96 rfl rfl rfl (by simp) rfl ?_
  rintro ⟨_, _, w0, I0, O0, X0, fx⟩ rfl rfl hT hfx
  refine AWp.seq ?_
  refine AWp.region ?_
  refine AOps.run hT true rfl ?_ ?_
  · repeat' (first | exact trivial | exact Bool.not_or_self _ | refine And.intro ?_ ?_ | (simp; done) | (simp_all; done) | (simp [inR_i64] at *; omega) | decide)
  refine AOps.nil ?_
  repeat (with_reducible first | refine thenNil ?_ | refine blockNil ?_)
  refine AWp.seq ?_
  refine AWp.region ?_
  refine AOps.run hT true rfl ?_ ?_
  · repeat' (first | exact trivial | exact Bool.not_or_self _ | refine And.intro ?_ ?_ | (simp; done) | (simp_all; done) | (simp [inR_i64] at *; omega) | decide)
  refine AOps.callF (T := T) rfl rfl rfl rfl rfl ?_ (l01New_fn bs hb) (.inr rfl) rfl ?_
  · repeat' (first | exact trivial | exact Bool.not_or_self _ | refine And.intro ?_ ?_ | (simp; done) | (simp_all; done) | (simp [inR_i64] at *; omega) | decide)
  refine AOps.run hT true rfl ?_ ?_
  · repeat' (first | exact trivial | exact Bool.not_or_self _ | refine And.intro ?_ ?_ | (simp; done) | (simp_all; done) | (simp [inR_i64] at *; omega) | decide)
  refine AOps.nil ?_
  repeat (with_reducible first | refine thenNil ?_ | refine blockNil ?_)
  refine AWp.seq ?_
  refine AWp.seq ?_
  refine AWp.region ?_
  refine AOps.run hT true rfl ?_ ?_
  · repeat' (first | exact trivial | exact Bool.not_or_self _ | refine And.intro ?_ ?_ | (simp; done) | (simp_all; done) | (simp [inR_i64] at *; omega) | decide)
  refine AOps.nil ?_
  repeat (with_reducible first | refine thenNil ?_ | refine blockNil ?_)
  refine AWp.block ?_
  refine AWp.loopS (σ := Int × Int × Int) (fun (x, _) => (n - x).toNat) (fun (x, p, s) => [(1, .i (ci n)), (5, .optr 0 0), (6, .i (ci x))]) (fun (x, p, s) => [cu bs p s]) (fun (x, p, s) => 0 ≤ x ∧ x ≤ n ∧ 0 ≤ p ∧ curIt bs x.toNat = (p, s)) ((0, 0, seedN bs)) ?_ ?_ ?_
  · refine ⟨?_, ?_, rfl, rfl, fun k hk => Nat.lt_of_lt_of_le (hfx k hk) (Nat.le_of_ble_eq_true rfl)⟩
    · repeat' (first | exact Sub.nil | exact rfl | refine Sub.cons ?_ ?_)
    · repeat' (first | exact HTr.nil | exact objEq_refl _ | exact objEq_app1 | exact objEq_nil | exact objEq_mapP | exact objEq_mapI |  exact objEq_set (by first | omega | (simp; omega)) | exact objEq_appS (by simp) (appF_S rfl (fun _ _ => rfl)) | refine HTr.cons ?_ ?_ | refine HTr.dead rfl ?_)
  · exact ⟨by omega, by omega, by omega, rfl⟩
  rintro ⟨x, p, s⟩ ⟨h0, h1, h3, h4⟩
  refine AWp.seq ?_
  refine AWp.seq ?_
  refine AWp.region ?_
  refine AOps.run hT true rfl ?_ ?_
  · repeat' (first | exact trivial | exact Bool.not_or_self _ | refine And.intro ?_ ?_ | (simp; done) | (simp_all; done) | (simp [inR_i64] at *; omega) | decide)
  refine AOps.nil ?_
  repeat (with_reducible first | refine thenNil ?_ | refine blockNil ?_)
  refine AWp.cond rfl ?_ (fun hc0 => ?_) (fun hc0 => ?_)
  · repeat' (first | exact trivial | exact Bool.not_or_self _ | refine And.intro ?_ ?_ | (simp; done) | (simp_all; done) | (simp [inR_i64] at *; omega) | decide)
  · try simp only [decide_eq_true_eq, decide_eq_false_iff_not] at hc0
    refine AWp.skip ?_
    repeat (with_reducible first | refine thenNil ?_ | refine blockNil ?_)
    refine AWp.seq ?_
    refine AWp.block ?_
    refine AWp.region ?_
    refine AOps.run hT true rfl ?_ ?_
    · repeat' (first | exact trivial | exact Bool.not_or_self _ | refine And.intro ?_ ?_ | (simp; done) | (simp_all; done) | (simp [inR_i64] at *; omega) | decide)
    refine AOps.callH (T := T) [0] rfl rfl rfl rfl rfl rfl ?_ (l01Byte_fn bs p s hb h3) (.inr rfl) rfl rfl ?_
    · repeat' (first | exact trivial | exact Bool.not_or_self _ | refine And.intro ?_ ?_ | (simp; done) | (simp_all; done) | (simp [inR_i64] at *; omega) | decide)
    refine AOps.nil ?_
    repeat (with_reducible first | refine thenNil ?_ | refine blockNil ?_)
    refine AWp.region ?_
    refine AOps.run hT true rfl ?_ ?_
    · repeat' (first | exact trivial | exact Bool.not_or_self _ | refine And.intro ?_ ?_ | (simp; done) | (simp_all; done) | (simp [inR_i64] at *; omega) | decide)
    refine AOps.nil ?_
    repeat (with_reducible first | refine thenNil ?_ | refine blockNil ?_)
    refine Exists.intro ((x + 1, byP bs p, sd s)) (And.intro (And.intro ?_ ?_) ?_)
    · simp at *; omega
    · exact ⟨by omega, by omega, byP_nn h3, by rw [show (x + 1).toNat = x.toNat + 1 by omega, curIt, h4]⟩
    · refine ⟨?_, ?_, rfl, rfl, fun k hk => Nat.lt_of_lt_of_le (hfx k hk) (Nat.le_of_ble_eq_true rfl)⟩
      · repeat' (first | exact Sub.nil | exact rfl | refine Sub.cons ?_ ?_)
      · repeat' (first | exact HTr.nil | exact objEq_refl _ | exact objEq_app1 | exact objEq_nil | exact objEq_mapP | exact objEq_mapI |  exact objEq_set (by first | omega | (simp; omega)) | exact objEq_appS (by simp) (appF_S rfl (fun _ _ => rfl)) | refine HTr.cons ?_ ?_ | refine HTr.dead rfl ?_)
  · try simp only [decide_eq_true_eq, decide_eq_false_iff_not] at hc0
    refine AWp.exit ?_
    repeat (with_reducible first | refine thenExit ?_ | refine blockSame ?_ | refine blockOther rfl ?_ | refine thenNil ?_ | refine blockNil ?_)
    refine AWp.seq ?_
    refine AWp.region ?_
    refine AOps.run hT true rfl ?_ ?_
    · repeat' (first | exact trivial | exact Bool.not_or_self _ | refine And.intro ?_ ?_ | (simp; done) | (simp_all; done) | (simp [inR_i64] at *; omega) | decide)
    refine AOps.nil ?_
    repeat (with_reducible first | refine thenNil ?_ | refine blockNil ?_)
    rw [show curIt bs n = (p, s) by rw [← h4]; congr 1; omega]
    refine AWp.ret ?_
    repeat (with_reducible first | refine thenRet ?_ | refine blockRet ?_)
    refine EndsIn.ret rfl ?_ ?_
    · repeat' (first | exact trivial | exact Bool.not_or_self _ | refine And.intro ?_ ?_ | (simp; done) | (simp_all; done) | (simp [inR_i64] at *; omega) | decide)
    refine ⟨[0], rfl, ⟨_, _, _, rfl, rfl, rfl, ?_, rfl⟩, rfl, rfl, rfl⟩
    exact rfl

set_option maxRecDepth 20000 in
theorem MakeNum_fn (bs : List Int) (n : Nat) (hb : bs.length ≤ 1048576) (hn : n ≤ 1048576) : AFn P 48 [lY bs, ci n] (.i (ci (numF bs n))) [] := by
  refine AFn.of_body Tok 15 Go.Proofs.Try.func48 rfl rfl rfl (by simp) rfl ?_
  rintro ⟨_, _, w0, I0, O0, X0, fx⟩ rfl rfl hT hfx
  have hq1 := byB_range bs (curIt bs n).1 (curIt bs n).2
  have hq2 := byB_range bs (curIt bs (n + 1)).1 (curIt bs (n + 1)).2
  refine AWp.seq ?_
  refine AWp.region ?_
  refine AOps.run hT true rfl ?_ ?_
  · repeat' (first | exact trivial | exact Bool.not_or_self _ | refine And.intro ?_ ?_ | (simp; done) | (simp_all; done) | (simp [inR_i64] at *; omega) | decide)
  refine AOps.nil ?_
  repeat (with_reducible first | refine thenNil ?_ | refine blockNil ?_)
  refine AWp.seq ?_
  refine AWp.region ?_
  refine AOps.run hT true rfl ?_ ?_
  · repeat' (first | exact trivial | exact Bool.not_or_self _ | refine And.intro ?_ ?_ | (simp; done) | (simp_all; done) | (simp [inR_i64] at *; omega) | decide)
  refine AOps.callF (T := T) rfl rfl rfl rfl rfl ?_ (l19New_fn bs n hb hn) (.inr rfl) rfl ?_
  · repeat' (first | exact trivial | exact Bool.not_or_self _ | refine And.intro ?_ ?_ | (simp; done) | (simp_all; done) | (simp [inR_i64] at *; omega) | decide)
  refine AOps.run hT true rfl ?_ ?_
  · repeat' (first | exact trivial | exact Bool.not_or_self _ | refine And.intro ?_ ?_ | (simp; done) | (simp_all; done) | (simp [inR_i64] at *; omega) | decide)
  refine AOps.nil ?_
  repeat (with_reducible first | refine thenNil ?_ | refine blockNil ?_)
  refine AWp.seq ?_
  refine AWp.region ?_
  refine AOps.run hT true rfl ?_ ?_
  · repeat' (first | exact trivial | exact Bool.not_or_self _ | refine And.intro ?_ ?_ | (simp; done) | (simp_all; done) | (simp [inR_i64] at *; omega) | decide)
  refine AOps.callH (T := T) [0] rfl rfl rfl rfl rfl rfl ?_ (l01Byte_fn bs (curIt bs n).1 (curIt bs n).2 hb (curIt_nn bs n)) (.inr rfl) rfl rfl ?_
  · repeat' (first | exact trivial | exact Bool.not_or_self _ | refine And.intro ?_ ?_ | (simp; done) | (simp_all; done) | (simp [inR_i64] at *; omega) | decide)
  refine AOps.run hT true rfl ?_ ?_
  · repeat' (first | exact trivial | exact Bool.not_or_self _ | refine And.intro ?_ ?_ | (simp; done) | (simp_all; done) | (simp [inR_i64] at *; omega) | decide)
  refine AOps.callH (T := T) [0] rfl rfl rfl rfl rfl rfl ?_ (l01Byte_fn bs (curIt bs (n + 1)).1 (curIt bs (n + 1)).2 hb (curIt_nn bs (n + 1))) (.inr rfl) rfl rfl ?_
  · repeat' (first | exact trivial | exact Bool.not_or_self _ | refine And.intro ?_ ?_ | (simp; done) | (simp_all; done) | (simp [inR_i64] at *; omega) | decide)
  refine AOps.run hT true rfl ?_ ?_
  · repeat' (first | exact trivial | exact Bool.not_or_self _ | refine And.intro ?_ ?_ | (simp; done) | (simp_all; done) | (simp [inR_i64] at *; omega) | decide)
  refine AOps.nil ?_
  repeat (with_reducible first | refine thenNil ?_ | refine blockNil ?_)
  refine AWp.ret ?_
  repeat (with_reducible first | refine thenRet ?_ | refine blockRet ?_)
  refine EndsIn.ret rfl ?_ ?_
  · repeat' (first | exact trivial | exact Bool.not_or_self _ | refine And.intro ?_ ?_ | (simp; done) | (simp_all; done) | (simp [inR_i64] at *; omega) | decide)
  refine ⟨[], ?_, rfl, rfl, rfl⟩
  rfl

set_option maxRecDepth 20000 in
theorem l01Below_fn (bs : List Int) (pos s n : Int) (hb : bs.length ≤ 1048576) (hp : 0 ≤ pos) (hn : 1 ≤ n) (hn2 : n ≤ 256) : AFnH P 116 [.optr 0 0, .i (ci n)] [cu bs pos s] (.i (ci ((byB bs pos s).tmod n))) [cu bs (byP bs pos) (sd s)] := by
  refine AFnH.of_body Tok 37 Go.Proofs.Try.func116 rfl rfl rfl (by simp) rfl ?_
  rintro ⟨_, _, w0, I0, O0, X0, fx⟩ rfl rfl hT hfx
  refine AWp.seq ?_
  refine AWp.region ?_
  refine AOps.run hT true rfl ?_ ?_
  · repeat' (first | exact trivial | exact Bool.not_or_self _ | refine And.intro ?_ ?_ | (simp; done) | (simp_all; done) | (simp [inR_i64] at *; omega) | decide)
  refine AOps.nil ?_
  repeat (with_reducible first | refine thenNil ?_ | refine blockNil ?_)
  refine AWp.seq ?_
  refine AWp.seq ?_
  refine AWp.region ?_
  refine AOps.run hT true rfl ?_ ?_
  · repeat' (first | exact trivial | exact Bool.not_or_self _ | refine And.intro ?_ ?_ | (simp; done) | (simp_all; done) | (simp [inR_i64] at *; omega) | decide)
  refine AOps.nil ?_
  repeat (with_reducible first | refine thenNil ?_ | refine blockNil ?_)
  refine AWp.cond rfl ?_ (fun hc0 => ?_) (fun hc0 => ?_)
  · repeat' (first | exact trivial | exact Bool.not_or_self _ | refine And.intro ?_ ?_ | (simp; done) | (simp_all; done) | (simp [inR_i64] at *; omega) | decide)
  · simp at hc0; omega
  · try simp only [decide_eq_true_eq, decide_eq_false_iff_not] at hc0
    refine AWp.skip ?_
    repeat (with_reducible first | refine thenNil ?_ | refine blockNil ?_)
    refine AWp.seq ?_
    refine AWp.seq ?_
    refine AWp.region ?_
    refine AOps.run hT true rfl ?_ ?_
    · repeat' (first | exact trivial | exact Bool.not_or_self _ | refine And.intro ?_ ?_ | (simp; done) | (simp_all; done) | (simp [inR_i64] at *; omega) | decide)
    refine AOps.nil ?_
    repeat (with_reducible first | refine thenNil ?_ | refine blockNil ?_)
    refine AWp.cond rfl ?_ (fun hc1 => ?_) (fun hc1 => ?_)
    · repeat' (first | exact trivial | exact Bool.not_or_self _ | refine And.intro ?_ ?_ | (simp; done) | (simp_all; done) | (simp [inR_i64] at *; omega) | decide)
    · try simp only [decide_eq_true_eq, decide_eq_false_iff_not] at hc1
      refine AWp.seq ?_
      refine AWp.region ?_
      refine AOps.run hT true rfl ?_ ?_
      · repeat' (first | exact trivial | exact Bool.not_or_self _ | refine And.intro ?_ ?_ | (simp; done) | (simp_all; done) | (simp [inR_i64] at *; omega) | decide)
      refine AOps.callH (T := T) [0] rfl rfl rfl rfl rfl rfl ?_ (l01Byte_fn bs pos s hb hp) (.inr rfl) rfl rfl ?_
      · repeat' (first | exact trivial | exact Bool.not_or_self _ | refine And.intro ?_ ?_ | (simp; done) | (simp_all; done) | (simp [inR_i64] at *; omega) | decide)
      refine AOps.run hT true rfl ?_ ?_
      · repeat' (first | exact trivial | exact Bool.not_or_self _ | refine And.intro ?_ ?_ | (simp; done) | (simp_all; done) | (simp [inR_i64] at *; omega) | decide)
      refine AOps.nil ?_
      repeat (with_reducible first | refine thenNil ?_ | refine blockNil ?_)
      refine AWp.ret ?_
      repeat (with_reducible first | refine thenRet ?_ | refine blockRet ?_)
      refine EndsIn.ret rfl ?_ ?_
      · repeat' (first | exact trivial | exact Bool.not_or_self _ | refine And.intro ?_ ?_ | (simp; done) | (simp_all; done) | (simp [inR_i64] at *; omega) | decide)
      refine ⟨[0], rfl, ⟨_, _, _, rfl, rfl, rfl, ?_, rfl⟩, rfl, rfl, rfl⟩
      exact rfl
    · simp at hc1; omega

set_option maxRecDepth 20000 in
theorem l11Draw_fn (bs : List Int) (hb : bs.length ≤ 1048576) : AFnH P 101 [.optr 0 0] [cu bs 0 (seedN bs)] (.tup [.i (ci (mkM bs)), .i (cpair (mkP bs))]) [cu bs (curIt bs 2).1 (curIt bs 2).2] := by
  refine AFnH.of_body Tok 19 Go.Proofs.Try.func101 rfl rfl rfl (by simp) rfl ?_
  rintro ⟨_, _, w0, I0, O0, X0, fx⟩ rfl rfl hT hfx
  have hM := mkM_range bs
  have hJ := mkJ_range bs
  have hL := allP_length (most := mkM bs) hM.1 (by omega)
  have hTm := tmod_range (b := byB bs 0 (seedN bs)) (n := 12) (byB_range _ _ _).1 (by omega)
  refine AWp.seq ?_
  refine AWp.region ?_
  refine AOps.run hT true rfl ?_ ?_
  · repeat' (first | exact trivial | exact Bool.not_or_self _ | refine And.intro ?_ ?_ | (simp; done) | (simp_all; done) | (simp [inR_i64] at *; omega) | (exact decide_eq_true hJ) | (refine decide_eq_true ?_; unfold mkJ at hJ; omega) | decide)
  refine AOps.nil ?_
  repeat (with_reducible first | refine thenNil ?_ | refine blockNil ?_)
  refine AWp.seq ?_
  refine AWp.region ?_
  refine AOps.run hT true rfl ?_ ?_
  · repeat' (first | exact trivial | exact Bool.not_or_self _ | refine And.intro ?_ ?_ | (simp; done) | (simp_all; done) | (simp [inR_i64] at *; omega) | (exact decide_eq_true hJ) | (refine decide_eq_true ?_; unfold mkJ at hJ; omega) | decide)
  refine AOps.callH (T := T) [0] rfl rfl rfl rfl rfl rfl ?_ (l01Below_fn bs 0 (seedN bs) 12 hb (by omega) (by omega) (by omega)) (.inr rfl) rfl rfl ?_
  · repeat' (first | exact trivial | exact Bool.not_or_self _ | refine And.intro ?_ ?_ | (simp; done) | (simp_all; done) | (simp [inR_i64] at *; omega) | (exact decide_eq_true hJ) | (refine decide_eq_true ?_; unfold mkJ at hJ; omega) | decide)
  refine AOps.run hT true rfl ?_ ?_
  · repeat' (first | exact trivial | exact Bool.not_or_self _ | refine And.intro ?_ ?_ | (simp; done) | (simp_all; done) | (simp [inR_i64] at *; omega) | (exact decide_eq_true hJ) | (refine decide_eq_true ?_; unfold mkJ at hJ; omega) | decide)
  refine AOps.nil ?_
  repeat (with_reducible first | refine thenNil ?_ | refine blockNil ?_)
  refine AWp.seq ?_
  refine AWp.region ?_
  refine AOps.run hT true rfl ?_ ?_
  · repeat' (first | exact trivial | exact Bool.not_or_self _ | refine And.intro ?_ ?_ | (simp; done) | (simp_all; done) | (simp [inR_i64] at *; omega) | (exact decide_eq_true hJ) | (refine decide_eq_true ?_; unfold mkJ at hJ; omega) | decide)
  refine AOps.callF (T := T) rfl rfl rfl rfl rfl ?_ (sAllPairs_fn (mkM bs) (by constructor <;> omega)) (.inl ⟨by repeat' (first | exact trivial | refine And.intro ?_ ?_ | intro _), by repeat' (first | exact trivial | refine And.intro ?_ ?_ | intro _)⟩) rfl ?_
  · repeat' (first | exact trivial | exact Bool.not_or_self _ | refine And.intro ?_ ?_ | (simp; done) | (simp_all; done) | (simp [inR_i64] at *; omega) | (exact decide_eq_true hJ) | (refine decide_eq_true ?_; unfold mkJ at hJ; omega) | decide)
  refine AOps.run hT true rfl ?_ ?_
  · repeat' (first | exact trivial | exact Bool.not_or_self _ | refine And.intro ?_ ?_ | (simp; done) | (simp_all; done) | (simp [inR_i64] at *; omega) | (exact decide_eq_true hJ) | (refine decide_eq_true ?_; unfold mkJ at hJ; omega) | decide)
  refine AOps.nil ?_
  repeat (with_reducible first | refine thenNil ?_ | refine blockNil ?_)
  refine AWp.seq ?_
  refine AWp.regionAny mixed [[], [], [], [], [3], [2, 3, 4], [1, 2, 3, 4, 5], [1, 2, 3, 4, 5, 6], [0, 2, 3, 4, 5], [0, 1, 2, 3, 4, 5, 6, 7, 8]] [5, 9] [_, _, _, _, _, _, _, _, _, .any] [_, _, _] rfl (by decide) rfl ⟨⟨OpStep.of_astep hT (nw := true) rfl ⟨_, rfl, rfl⟩ ?_, OpStep.of_astep hT (nw := true) rfl ⟨_, rfl, rfl⟩ ?_, trivial⟩, ⟨OpStep.of_astep hT (nw := true) rfl ⟨_, rfl, rfl⟩ ?_, OpStep.of_astep hT (nw := true) rfl ⟨_, rfl, rfl⟩ ?_, trivial⟩, ⟨OpStep.of_astep hT (nw := true) rfl ⟨_, rfl, rfl⟩ ?_, trivial⟩, ⟨OpStep.of_astep hT (nw := true) rfl ⟨_, rfl, rfl⟩ ?_, trivial⟩, ⟨OpStep.of_astep hT (nw := true) rfl ⟨_, rfl, rfl⟩ ?_, trivial⟩, ⟨OpStep.of_callH (T := T) [0] rfl rfl rfl rfl rfl rfl ?_ (l01Below_fn bs (curIt bs 1).1 (curIt bs 1).2 (allP (mkM bs)).length hb (curIt_nn bs 1) (by omega) (by omega)) (.inr rfl) rfl rfl, trivial⟩, ⟨OpStep.of_astep hT (nw := true) rfl ⟨_, rfl, rfl⟩ ?_, trivial⟩, ⟨OpStep.of_astep hT (nw := true) rfl ⟨_, rfl, rfl⟩ ?_, trivial⟩, ⟨OpStep.of_astep hT (nw := true) rfl ⟨_, rfl, rfl⟩ ?_, trivial⟩, ⟨OpStep.of_astep hT (nw := true) rfl ⟨_, rfl, rfl⟩ ?_, trivial⟩, trivial⟩ ?_
  · repeat' (first | exact trivial | exact Bool.not_or_self _ | refine And.intro ?_ ?_ | (simp; done) | (simp_all; done) | (simp [inR_i64] at *; omega) | (exact decide_eq_true hJ) | (refine decide_eq_true ?_; unfold mkJ at hJ; omega) | decide)
  · repeat' (first | exact trivial | exact Bool.not_or_self _ | refine And.intro ?_ ?_ | (simp; done) | (simp_all; done) | (simp [inR_i64] at *; omega) | (exact decide_eq_true hJ) | (refine decide_eq_true ?_; unfold mkJ at hJ; omega) | decide)
  · repeat' (first | exact trivial | exact Bool.not_or_self _ | refine And.intro ?_ ?_ | (simp; done) | (simp_all; done) | (simp [inR_i64] at *; omega) | (exact decide_eq_true hJ) | (refine decide_eq_true ?_; unfold mkJ at hJ; omega) | decide)
  · repeat' (first | exact trivial | exact Bool.not_or_self _ | refine And.intro ?_ ?_ | (simp; done) | (simp_all; done) | (simp [inR_i64] at *; omega) | (exact decide_eq_true hJ) | (refine decide_eq_true ?_; unfold mkJ at hJ; omega) | decide)
  · repeat' (first | exact trivial | exact Bool.not_or_self _ | refine And.intro ?_ ?_ | (simp; done) | (simp_all; done) | (simp [inR_i64] at *; omega) | (exact decide_eq_true hJ) | (refine decide_eq_true ?_; unfold mkJ at hJ; omega) | decide)
  · repeat' (first | exact trivial | exact Bool.not_or_self _ | refine And.intro ?_ ?_ | (simp; done) | (simp_all; done) | (simp [inR_i64] at *; omega) | (exact decide_eq_true hJ) | (refine decide_eq_true ?_; unfold mkJ at hJ; omega) | decide)
  · repeat' (first | exact trivial | exact Bool.not_or_self _ | refine And.intro ?_ ?_ | (simp; done) | (simp_all; done) | (simp [inR_i64] at *; omega) | (exact decide_eq_true hJ) | (refine decide_eq_true ?_; unfold mkJ at hJ; omega) | decide)
  · repeat' (first | exact trivial | exact Bool.not_or_self _ | refine And.intro ?_ ?_ | (simp; done) | (simp_all; done) | (simp [inR_i64] at *; omega) | (exact decide_eq_true hJ) | (refine decide_eq_true ?_; unfold mkJ at hJ; omega) | decide)
  · repeat' (first | exact trivial | exact Bool.not_or_self _ | refine And.intro ?_ ?_ | (simp; done) | (simp_all; done) | (simp [inR_i64] at *; omega) | (exact decide_eq_true hJ) | (refine decide_eq_true ?_; unfold mkJ at hJ; omega) | decide)
  · repeat' (first | exact trivial | exact Bool.not_or_self _ | refine And.intro ?_ ?_ | (simp; done) | (simp_all; done) | (simp [inR_i64] at *; omega) | (exact decide_eq_true hJ) | (refine decide_eq_true ?_; unfold mkJ at hJ; omega) | decide)
  · repeat' (first | exact trivial | exact Bool.not_or_self _ | refine And.intro ?_ ?_ | (simp; done) | (simp_all; done) | (simp [inR_i64] at *; omega) | (exact decide_eq_true hJ) | (refine decide_eq_true ?_; unfold mkJ at hJ; omega) | decide)
  · repeat' (first | exact trivial | exact Bool.not_or_self _ | refine And.intro ?_ ?_ | (simp; done) | (simp_all; done) | (simp [inR_i64] at *; omega) | (exact decide_eq_true hJ) | (refine decide_eq_true ?_; unfold mkJ at hJ; omega) | decide)
  repeat (with_reducible first | refine thenNil ?_ | refine blockNil ?_)
  refine AWp.ret ?_
  repeat (with_reducible first | refine thenRet ?_ | refine blockRet ?_)
  refine EndsIn.ret rfl ?_ ?_
  · repeat' (first | exact trivial | exact Bool.not_or_self _ | refine And.intro ?_ ?_ | (simp; done) | (simp_all; done) | (simp [inR_i64] at *; omega) | (exact decide_eq_true hJ) | (refine decide_eq_true ?_; unfold mkJ at hJ; omega) | decide)
  refine ⟨[0], rfl, ⟨_, _, _, rfl, rfl, rfl, ?_, rfl⟩, rfl, rfl, rfl⟩
  exact rfl

set_option maxRecDepth 20000 in
theorem MakePair_fn (bs : List Int) (hb : bs.length ≤ 1048576) : AFn P 63 [lY bs] (.tup [.i (ci (mkM bs)), .i (cpair (mkP bs))]) [] := by
  refine AFn.of_body Tok 9 Go.Proofs.Try.func63 rfl rfl rfl (by simp) rfl ?_
  rintro ⟨_, _, w0, I0, O0, X0, fx⟩ rfl rfl hT hfx
  refine AWp.seq ?_
  refine AWp.region ?_
  refine AOps.run hT true rfl ?_ ?_
  · repeat' (first | exact trivial | exact Bool.not_or_self _ | refine And.intro ?_ ?_ | (simp; done) | (simp_all; done) | (simp [inR_i64] at *; omega) | decide)
  refine AOps.nil ?_
  repeat (with_reducible first | refine thenNil ?_ | refine blockNil ?_)
  refine AWp.seq ?_
  refine AWp.region ?_
  refine AOps.run hT true rfl ?_ ?_
  · repeat' (first | exact trivial | exact Bool.not_or_self _ | refine And.intro ?_ ?_ | (simp; done) | (simp_all; done) | (simp [inR_i64] at *; omega) | decide)
  refine AOps.callF (T := T) rfl rfl rfl rfl rfl ?_ (l01New_fn bs hb) (.inr rfl) rfl ?_
  · repeat' (first | exact trivial | exact Bool.not_or_self _ | refine And.intro ?_ ?_ | (simp; done) | (simp_all; done) | (simp [inR_i64] at *; omega) | decide)
  refine AOps.callH (T := T) [1] rfl rfl rfl rfl rfl rfl ?_ (l11Draw_fn bs hb) (.inr rfl) rfl rfl ?_
  · repeat' (first | exact trivial | exact Bool.not_or_self _ | refine And.intro ?_ ?_ | (simp; done) | (simp_all; done) | (simp [inR_i64] at *; omega) | decide)
  refine AOps.run hT true rfl ?_ ?_
  · repeat' (first | exact trivial | exact Bool.not_or_self _ | refine And.intro ?_ ?_ | (simp; done) | (simp_all; done) | (simp [inR_i64] at *; omega) | decide)
  refine AOps.nil ?_
  repeat (with_reducible first | refine thenNil ?_ | refine blockNil ?_)
  refine AWp.ret ?_
  repeat (with_reducible first | refine thenRet ?_ | refine blockRet ?_)
  refine EndsIn.ret rfl ?_ ?_
  · repeat' (first | exact trivial | exact Bool.not_or_self _ | refine And.intro ?_ ?_ | (simp; done) | (simp_all; done) | (simp [inR_i64] at *; omega) | decide)
  refine ⟨[], ?_, rfl, rfl, rfl⟩
  rfl

end Go.AMA
