/- Contracts of functions of the program, for the claims of this seat. -/
import Derived.Test.YtciempegimofhaaA1
set_option linter.unusedSectionVars false
set_option linter.unusedSimpArgs false
set_option linter.unusedVariables false
set_option linter.unnecessarySimpa false
namespace Go.AMA
open Go.AM

/-! ### lists -/
section
variable {α : Type} [Inhabited α] {enc : α → IV}
def rmap (m : Nat → α) (n : Nat) : List α := (List.range n).map m
@[simp] theorem rmap_length (m : Nat → α) (n : Nat) : (rmap m n).length = n := by simp [rmap]
theorem rmap_get (m : Nat → α) {n j : Nat} (h : j < n) : (rmap m n).getD j default = m j := by simp [rmap, List.getD, h]
theorem rmap_succ (m : Nat → α) (n : Nat) : rmap m (n + 1) = rmap m n ++ [m n] := by simp [rmap, List.range_succ]
theorem mark_len (m : Nat → α) (l : List α) {x : Nat} (h : x ≤ l.length) : (rmap m x ++ l.drop x).length = l.length := by simp; omega
theorem mark_set (m : Nat → α) (l : List α) {x : Nat} (h : x < l.length) : (rmap m x ++ l.drop x).set x (m x) = rmap m (x + 1) ++ l.drop (x + 1) := by
  have h2 : l.drop x = l[x] :: l.drop (x + 1) := List.drop_eq_getElem_cons h
  rw [List.set_append_right _ _ (by simp), rmap_succ, h2, show x - (rmap m x).length = 0 by simp, List.set_cons_zero, List.append_assoc]
  rfl
theorem mark_end (m : Nat → α) (l : List α) {x : Nat} (h : l.length ≤ x) (h' : x ≤ l.length) : rmap m x ++ l.drop x = rmap m l.length := by
  have : x = l.length := by omega
  subst this; simp
theorem mark_zero (m : Nat → α) (l : List α) : rmap m 0 ++ l.drop 0 = l := by simp [rmap]

theorem upd1_enc (l : List α) {i : Nat} (x : α) (hi : i < l.length) (j : Nat) : updF (fun j => enc (l.getD j default)) i (enc x) j = enc ((l.set i x).getD j default) := updF_enc l i x hi j
theorem upd2_enc (l : List α) {i : Nat} (u : IV) (x : α) (hi : i < l.length) (j : Nat) : updF (updF (fun j => enc (l.getD j default)) i u) i (enc x) j = enc ((l.set i x).getD j default) := by
  rw [← updF_enc (enc := enc) l i x hi j]
  unfold updF
  by_cases h : j = i <;> simp [h]
end

theorem appF_S {α : Type} [Inhabited α] {enc : α → IV} {n : Nat} {f : Nat → IV} {l : List α} {x : α} (hn : n = l.length) (hf : ∀ j, j < n → f j = enc (l.getD j default)) : ∀ j, j < n + 1 → appF n f (listF [enc x]) j = enc ((l ++ [x]).getD j default) := by
  intro j hj
  subst hn
  unfold appF
  by_cases h : j < l.length
  · simp [h, hf j h, List.getElem?_append_left]
  · have : j = l.length := by omega
    subst this; simp [listF]
theorem objEq_appS {α : Type} [Inhabited α] {enc : α → IV} {fx : Bool} {t s n : Nat} {f : Nat → IV} {l : List α} {x : α} (hn : n = l.length) (hf : ∀ j, j < n → f j = enc (l.getD j default)) :
    objEq (.arr fx t s (n + 1) (appF n f (listF [enc x]))) (.arr fx t s (l ++ [x]).length (fun j => enc ((l ++ [x]).getD j default))) := ⟨rfl, rfl, rfl, by simp [hn], appF_S hn hf⟩
theorem objEq_set {α : Type} [Inhabited α] {enc : α → IV} {fx : Bool} {t s i : Nat} {l : List α} {x : α} (hi : i < l.length) :
    objEq (.arr fx t s l.length (updF (fun j => enc (l.getD j default)) i (enc x))) (.arr fx t s (l.set i x).length (fun j => enc ((l.set i x).getD j default))) := ⟨rfl, rfl, rfl, by simp, fun j _ => updF_enc l i x hi j⟩
theorem objEq_rep {α : Type} [Inhabited α] {enc : α → IV} {fx : Bool} {t s n : Nat} : objEq (.arr fx t s n (fun _ => enc default)) (.arr fx t s (List.replicate n (default : α)).length (fun j => enc ((List.replicate n (default : α)).getD j default))) :=
  ⟨rfl, rfl, rfl, by simp, fun j hj => by simp [List.getD, hj]⟩
theorem objEq_nil {α : Type} [Inhabited α] {enc : α → IV} {fx : Bool} {t s : Nat} {f : Nat → IV} : objEq (.arr fx t s 0 f) (.arr fx t s ([] : List α).length (fun j => enc (([] : List α).getD j default))) := ⟨rfl, rfl, rfl, rfl, fun j hj => absurd hj (Nat.not_lt_zero _)⟩

end Go.AMA
