/-
  A region that draws its order ends as it should in every order, if an invariant of what has been listed is kept by each operation. Condition: each operation waits only for earlier ones.
-/
import Derived.Test.YtgjgbcakhmphlaaA
/-! A region that draws its order, by an invariant of what has been listed. -/
namespace Go.Proofs.Ytgjgbcakhmphlaa
open Go.RowKit Go.Maps Go.WideMaps

theorem gdl (l : Array Bool) {i : Nat} (d : Bool) (h : i < l.size) : l.getD i d = l[i] := by simp [Array.getD_eq_getD_getElem?, h]

theorem ready_nil_all {md : Region.Mode} {ops : Array Oper} {l : Array Bool} (hdep : ∀ (i : Nat) (o : Oper), ops[i]? = some o → ∀ e ∈ o.after, e.on < i) (hsz : l.size = ops.size)
    (h : Region.ready md ops l = []) : ∀ i, i < ops.size → l.getD i false = true := by
  intro i
  induction i using Nat.strongRecOn with
  | ind i ih =>
    intro hi
    unfold Region.ready at h
    rw [List.filter_eq_nil_iff] at h
    have h0 := h i (by simpa using hi)
    cases hb : l.getD i false with
    | true => rfl
    | false =>
      exfalso
      apply h0
      have hb' : l.getD i true = false := by
        have hl : i < l.size := by omega
        rw [gdl l _ hl] at hb ⊢
        exact hb
      have ho : ops[i]? = some ops[i] := by simp [hi]
      rw [hb', ho]
      simp only [Bool.not_false, Bool.true_and, Option.map_some, Option.getD_some, Array.all_eq_true]
      intro j hj
      have hlt := hdep i _ ho ((ops[i]).after[j]) (Array.getElem_mem hj)
      rw [ih _ hlt (by omega)]
      simp

theorem wpAny_inv {P : Program} {md : Region.Mode} {ops : Array Oper} {Q : Exit → Act → World → Prop} (I : Array Bool → Act → World → Prop)
    (hdep : ∀ (i : Nat) (o : Oper), ops[i]? = some o → ∀ e ∈ o.after, e.on < i)
    (hsz : ∀ l a w, I l a w → l.size = ops.size)
    (hstep : ∀ l a w, I l a w → ∀ i o, ops[i]? = some o → l.getD i true = false → (∀ e ∈ o.after, Region.binds md e = true → l.getD e.on false = true) →
      o.guard = none ∧ o.wp P a w (fun a' w' => I (l.setIfInBounds i true) a' w') Q)
    (hdone : ∀ l a w, I l a w → (∀ i, i < ops.size → l.getD i false = true) → Q .normal a w) :
    ∀ fuel l a w, I l a w → l.toList.count false ≤ fuel → wpAny P md ops Q fuel l a w := by
  intro fuel
  induction fuel with
  | zero =>
    intro l a w hI hc
    have hall : ∀ i, i < ops.size → l.getD i false = true := by
      intro i hi
      have hl : i < l.size := by rw [hsz _ _ _ hI]; exact hi
      have hc0 : l.toList.count false = 0 := by omega
      rw [List.count_eq_zero] at hc0
      rw [gdl l _ hl]
      cases hb : l[i] with
      | true => rfl
      | false => exact absurd (hb ▸ (by simp : l[i] ∈ l.toList)) hc0
    refine ⟨?_, hdone _ _ _ hI hall⟩
    unfold Region.ready
    rw [List.filter_eq_nil_iff]
    intro i hi
    have hi' : i < ops.size := by simpa using hi
    have h1 := hall i hi'
    have hl : i < l.size := by rw [hsz _ _ _ hI]; exact hi'
    rw [gdl l _ hl] at h1 ⊢
    simp [h1]
  | succ fuel ih =>
    intro l a w hI hc
    refine ⟨fun hr => hdone _ _ _ hI (ready_nil_all hdep (hsz _ _ _ hI) hr), ?_⟩
    intro i hi
    unfold Region.ready at hi
    rw [List.mem_filter] at hi
    obtain ⟨hi0, hi1⟩ := hi
    have hi' : i < ops.size := by simpa using hi0
    have ho : ops[i]? = some ops[i] := by simp [hi']
    rw [ho] at hi1
    simp only [Option.map_some, Option.getD_some, Bool.and_eq_true, Bool.not_eq_true', Array.all_eq_true, Bool.or_eq_true] at hi1
    obtain ⟨hl0, hdeps⟩ := hi1
    have hl : i < l.size := by rw [hsz _ _ _ hI]; exact hi'
    obtain ⟨hg, hwp⟩ := hstep l a w hI i _ ho hl0 (by
      intro e he hb
      obtain ⟨j, hj, rfl⟩ := Array.mem_iff_getElem.1 he
      rcases hdeps j hj with h | h
      · rw [hb] at h; cases h
      · exact h)
    unfold wpOp
    rw [ho]
    simp only [Region.wanted, hg, if_true]
    refine Or.inl (Oper.wp_mono (fun a' w' h' => ih _ _ _ h' ?_) hwp)
    have hli : l[i] = false := by rw [gdl l _ hl] at hl0; exact hl0
    have hcount : (l.setIfInBounds i true).toList.count false + 1 = l.toList.count false := by
      rw [Array.toList_setIfInBounds]
      have hl' : i < l.toList.length := by simpa using hl
      have e := List.count_set (a := true) (b := false) hl'
      rw [e]
      have hpos : 0 < l.toList.count false := List.count_pos_iff.2 (hli ▸ (by simp : l[i] ∈ l.toList))
      have h2 : l.toList[i] = false := by simpa using hli
      rw [h2, if_pos (by rfl), if_neg (by decide)]
      omega
    omega
end Go.Proofs.Ytgjgbcakhmphlaa
