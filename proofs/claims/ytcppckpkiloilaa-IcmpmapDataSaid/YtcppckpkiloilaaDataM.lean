/-
  The walk of the law IcmpmapData, whole: the cases of DataW, joined. Condition: the rests are uint32.
-/
import Derived.Test.YtcppckpkiloilaaDataW
import Derived.Test.YtcppckpkiloilaaM
namespace Go.Proofs.Ytcppckpkiloilaa
open Go.RowKit

theorem data6_rel (k c r r' a b n : Int) (h12 : k ≠ 12) : (t6 k c r a b n = none ∧ t6 k c r' a b n = none) ∨ ∃ x y z z', t6 k c r a b n = some (x, y, z) ∧ t6 k c r' a b n = some (x, y, z') ∧ (k ≠ 8 → k ≠ 0 → ¬ (k = 3 ∧ c = 4) → z = z') := by
  unfold t6 u6 l6
  by_cases hs : 68 ≤ a ∧ a ≤ 65535 ∧ 1280 ≤ b ∧ b ≤ 65575
  · simp only [if_pos hs]
    by_cases h8 : k = 8 ∧ c = 0
    · simp only [if_pos h8]; exact Or.inr ⟨_, _, _, _, rfl, rfl, fun h => absurd h8.1 h⟩
    · simp only [if_neg h8]
      by_cases h0 : k = 0 ∧ c = 0
      · simp only [if_pos h0]; exact Or.inr ⟨_, _, _, _, rfl, rfl, fun _ h => absurd h0.1 h⟩
      · simp only [if_neg h0]
        by_cases h3 : k = 3
        · simp only [if_pos h3]
          by_cases c4 : c = 4
          · subst c4; simp only [show ¬ ((4 : Int) = 0 ∨ (4 : Int) = 1 ∨ (4 : Int) = 5 ∨ (4 : Int) = 6 ∨ (4 : Int) = 7 ∨ (4 : Int) = 8 ∨ (4 : Int) = 11 ∨ (4 : Int) = 12) by decide, show ¬ ((4 : Int) = 9 ∨ (4 : Int) = 10 ∨ (4 : Int) = 13 ∨ (4 : Int) = 15) by decide, show ¬ ((4 : Int) = 3) by decide, show ¬ ((4 : Int) = 2) by decide, if_false, if_true]
            exact Or.inr ⟨_, _, _, _, rfl, rfl, fun _ _ h => absurd ⟨h3, by trivial⟩ h⟩
          · simp only [if_neg c4]
            by_cases c1 : c = 0 ∨ c = 1 ∨ c = 5 ∨ c = 6 ∨ c = 7 ∨ c = 8 ∨ c = 11 ∨ c = 12
            · simp only [if_pos c1]; exact Or.inr ⟨_, _, _, _, rfl, rfl, fun _ _ _ => rfl⟩
            · simp only [if_neg c1]
              by_cases c2 : c = 9 ∨ c = 10 ∨ c = 13 ∨ c = 15
              · simp only [if_pos c2]; exact Or.inr ⟨_, _, _, _, rfl, rfl, fun _ _ _ => rfl⟩
              · simp only [if_neg c2]
                by_cases c3 : c = 3
                · simp only [if_pos c3]; exact Or.inr ⟨_, _, _, _, rfl, rfl, fun _ _ _ => rfl⟩
                · simp only [if_neg c3]
                  by_cases c5 : c = 2
                  · simp only [if_pos c5]; exact Or.inr ⟨_, _, _, _, rfl, rfl, fun _ _ _ => rfl⟩
                  · simp only [if_neg c5]; exact Or.inl ⟨by trivial, by trivial⟩
        · simp only [if_neg h3]
          by_cases h11 : k = 11 ∧ (c = 0 ∨ c = 1)
          · simp only [if_pos h11]; exact Or.inr ⟨_, _, _, _, rfl, rfl, fun _ _ _ => rfl⟩
          · simp only [if_neg h11, if_neg (show ¬ (k = 12 ∧ (c = 0 ∨ c = 2)) from fun h => h12 h.1)]
            exact Or.inl ⟨by trivial, by trivial⟩
  · simp only [if_neg hs]; exact Or.inl ⟨by trivial, by trivial⟩
theorem data4_rel (k c r r' a b : Int) (h40 : ¬ (k = 4 ∧ c = 0)) : (t4 k c r a b = none ∧ t4 k c r' a b = none) ∨ ∃ x y z z', t4 k c r a b = some (x, y, z) ∧ t4 k c r' a b = some (x, y, z') := by
  unfold t4 u4 l4
  by_cases hs : 68 ≤ a ∧ a ≤ 65535 ∧ 1280 ≤ b ∧ b ≤ 65575
  · simp only [if_pos hs, if_neg h40]
    repeat' split
    all_goals first | exact Or.inl ⟨by trivial, by trivial⟩ | exact Or.inr ⟨_, _, _, _, rfl, rfl⟩
  · simp only [if_neg hs]; exact Or.inl ⟨by trivial, by trivial⟩
theorem t4_echo8 (k c r a b : Int) (h : k = 12 ∨ k = 8 ∨ k = 0 ∨ (k = 3 ∧ c = 4)) : t4 k c r a b = none := by
  unfold t4 u4
  by_cases hs : 68 ≤ a ∧ a ≤ 65535 ∧ 1280 ≤ b ∧ b ≤ 65575
  · rw [if_pos hs]
    rcases h with rfl | rfl | rfl | ⟨rfl, rfl⟩ <;> simp
  · rw [if_neg hs]
theorem t6_four (c r a b n : Int) : t6 4 c r a b n = none := by
  unfold t6 u6
  split
  · simp
  · rfl
theorem ans6 {k c r a b n : Int} (d : ByteArray) {e : Option (Int × Int × Int)} (hr : 0 ≤ r ∧ r ≤ 4294967295) (h : t6 k c r a b n = e) : Ans 12 #[msgV k c r d, .int .i64 a, .int .i64 b, .int .i64 n] (oK e) (oC e) (oR e) (oS d e) e.isSome :=
  fun w => to6_gen hr.1 (by omega) h rfl rfl rfl rfl rfl w
theorem ans4 {k c r a b : Int} (d : ByteArray) {e : Option (Int × Int × Int)} (hr : 0 ≤ r ∧ r ≤ 4294967295) (h : t4 k c r a b = e) : Ans 13 #[msgV k c r d, .int .i64 a, .int .i64 b] (oK e) (oC e) (oR e) (oS d e) e.isSome :=
  fun w => to4_gen hr.1 (by omega) h rfl rfl rfl rfl rfl w

theorem data_walk (k c r : Int) (d : ByteArray) (r' : Int) (s : ByteArray) (a b n : Int) (w : World) (wr : (Lit.int .u32 r).wf = true) (wr' : (Lit.int .u32 r').wf = true) (_ : (Lit.int .i64 a).wf = true) (_ : (Lit.int .i64 b).wf = true) (_ : (Lit.int .i64 n).wf = true) :
    Calls Try.prog 4 #[.agg #[.int .i64 k, .int .i64 c, .int .u32 r, .string d], .int .u32 r', .string s, .int .i64 a, .int .i64 b, .int .i64 n] w fun e w' => e = .returned (.bool true) ∧ Below w.heap.size w w' := by
  have hr := bounds_u32 wr
  have hr' := bounds_u32 wr'
  by_cases hd : (d.size : Int) ≤ 1000
  · by_cases hs : (s.size : Int) ≤ 1000
    · by_cases h12 : k = 12
      · subst h12
        exact data_12 _ _ _ _ _ _ _ _ _ _ _ _ _ _ _ _ _ _ _ _ _ _ w hd hs (ans6 d hr rfl) (ans6 s hr' rfl) (ans4 d hr (t4_echo8 _ _ _ _ _ (by simp))) (ans4 s hr' (t4_echo8 _ _ _ _ _ (by simp)))
      · have h6 := data6_rel k c r r' a b n h12
        by_cases h8 : k = 8
        · subst h8
          rcases h6 with ⟨e1, e2⟩ | ⟨x, y, z, z', e1, e2, _⟩
          · exact data_8_false _ _ _ _ _ _ _ _ _ _ _ _ _ _ _ _ w hd hs (by have h := ans6 d hr e1; exact h) (by have h := ans6 s hr' e2; exact h) (ans4 d hr (t4_echo8 _ _ _ _ _ (by simp))) (ans4 s hr' (t4_echo8 _ _ _ _ _ (by simp)))
          · exact data_8_true _ _ _ _ _ _ _ _ _ _ _ _ _ _ _ _ w hd hs (by have h := ans6 d hr e1; exact h) (by have h := ans6 s hr' e2; exact h) (ans4 d hr (t4_echo8 _ _ _ _ _ (by simp))) (ans4 s hr' (t4_echo8 _ _ _ _ _ (by simp)))
        · by_cases h0 : k = 0
          · subst h0
            rcases h6 with ⟨e1, e2⟩ | ⟨x, y, z, z', e1, e2, _⟩
            · exact data_0_false _ _ _ _ _ _ _ _ _ _ _ _ _ _ _ _ w hd hs (by have h := ans6 d hr e1; exact h) (by have h := ans6 s hr' e2; exact h) (ans4 d hr (t4_echo8 _ _ _ _ _ (by simp))) (ans4 s hr' (t4_echo8 _ _ _ _ _ (by simp)))
            · exact data_0_true _ _ _ _ _ _ _ _ _ _ _ _ _ _ _ _ w hd hs (by have h := ans6 d hr e1; exact h) (by have h := ans6 s hr' e2; exact h) (ans4 d hr (t4_echo8 _ _ _ _ _ (by simp))) (ans4 s hr' (t4_echo8 _ _ _ _ _ (by simp)))
          · by_cases h34 : k = 3 ∧ c = 4
            · obtain ⟨rfl, rfl⟩ := h34
              rcases h6 with ⟨e1, e2⟩ | ⟨x, y, z, z', e1, e2, _⟩
              · exact data_34_false _ _ _ _ _ _ _ _ _ _ _ _ _ _ _ w hd hs (by have h := ans6 d hr e1; exact h) (by have h := ans6 s hr' e2; exact h) (ans4 d hr (t4_echo8 _ _ _ _ _ (by simp))) (ans4 s hr' (t4_echo8 _ _ _ _ _ (by simp)))
              · exact data_34_true _ _ _ _ _ _ _ _ _ _ _ _ _ _ _ w hd hs (by have h := ans6 d hr e1; exact h) (by have h := ans6 s hr' e2; exact h) (ans4 d hr (t4_echo8 _ _ _ _ _ (by simp))) (ans4 s hr' (t4_echo8 _ _ _ _ _ (by simp)))
            · by_cases h40 : k = 4 ∧ c = 0
              · obtain ⟨rfl, rfl⟩ := h40
                exact data_40 _ _ _ _ _ _ _ _ _ _ _ _ _ _ _ _ _ _ _ _ w hd hs (ans6 d hr (t6_four _ _ _ _ _)) (ans6 s hr' (t6_four _ _ _ _ _)) (ans4 d hr rfl) (ans4 s hr' rfl)
              · have h4 := data4_rel k c r r' a b h40
                by_cases k3 : k = 3
                · have hc : (c != 4) = true := by simpa using fun h => h34 ⟨k3, h⟩
                  subst k3
                  rcases h6 with ⟨e1, e2⟩ | ⟨x, y, z, z', e1, e2, hz⟩
                  · rcases h4 with ⟨e3, e4⟩ | ⟨u, v, t, t', e3, e4⟩
                    · exact data_3_false_false _ _ _ _ _ _ _ _ _ _ _ _ _ _ _ w hd hs hc (by have h := ans6 d hr e1; exact h) (by have h := ans6 s hr' e2; exact h) (by have h := ans4 d hr e3; exact h) (by have h := ans4 s hr' e4; exact h)
                    · exact data_3_false_true _ _ _ _ _ _ _ _ _ _ _ _ _ _ _ w hd hs hc (by have h := ans6 d hr e1; exact h) (by have h := ans6 s hr' e2; exact h) (by have h := ans4 d hr e3; exact h) (by have h := ans4 s hr' e4; exact h)
                  · obtain rfl := hz h8 h0 h34
                    rcases h4 with ⟨e3, e4⟩ | ⟨u, v, t, t', e3, e4⟩
                    · exact data_3_true_false _ _ _ _ _ _ _ _ _ _ _ _ _ _ _ w hd hs hc (by have h := ans6 d hr e1; exact h) (by have h := ans6 s hr' e2; exact h) (by have h := ans4 d hr e3; exact h) (by have h := ans4 s hr' e4; exact h)
                    · exact data_3_true_true _ _ _ _ _ _ _ _ _ _ _ _ _ _ _ w hd hs hc (by have h := ans6 d hr e1; exact h) (by have h := ans6 s hr' e2; exact h) (by have h := ans4 d hr e3; exact h) (by have h := ans4 s hr' e4; exact h)
                · by_cases k4 : k = 4
                  · have hc : (c == 0) = false := by simpa using fun h => h40 ⟨k4, h⟩
                    subst k4
                    rcases h4 with ⟨e3, e4⟩ | ⟨u, v, t, t', e3, e4⟩
                    · exact data_4_false _ _ _ _ _ _ _ _ _ _ _ _ _ _ _ w hd hs hc (ans6 d hr (t6_four _ _ _ _ _)) (ans6 s hr' (t6_four _ _ _ _ _)) (by have h := ans4 d hr e3; exact h) (by have h := ans4 s hr' e4; exact h)
                    · exact data_4_true _ _ _ _ _ _ _ _ _ _ _ _ _ _ _ w hd hs hc (ans6 d hr (t6_four _ _ _ _ _)) (ans6 s hr' (t6_four _ _ _ _ _)) (by have h := ans4 d hr e3; exact h) (by have h := ans4 s hr' e4; exact h)
                  · have g12 : (k != 12) = true := by simpa using h12
                    have g8 : (k != 8) = true := by simpa using h8
                    have g0 : (k != 0) = true := by simpa using h0
                    have g3 : (k != 3) = true := by simpa using k3
                    have g4 : (k == 4) = false := by simpa using k4
                    rcases h6 with ⟨e1, e2⟩ | ⟨x, y, z, z', e1, e2, hz⟩
                    · rcases h4 with ⟨e3, e4⟩ | ⟨u, v, t, t', e3, e4⟩
                      · exact data_g_false_false _ _ _ _ _ _ _ _ _ _ _ _ _ _ _ _ w hd hs g12 g8 g0 g3 g4 (by have h := ans6 d hr e1; exact h) (by have h := ans6 s hr' e2; exact h) (by have h := ans4 d hr e3; exact h) (by have h := ans4 s hr' e4; exact h)
                      · exact data_g_false_true _ _ _ _ _ _ _ _ _ _ _ _ _ _ _ _ w hd hs g12 g8 g0 g3 g4 (by have h := ans6 d hr e1; exact h) (by have h := ans6 s hr' e2; exact h) (by have h := ans4 d hr e3; exact h) (by have h := ans4 s hr' e4; exact h)
                    · obtain rfl := hz h8 h0 h34
                      rcases h4 with ⟨e3, e4⟩ | ⟨u, v, t, t', e3, e4⟩
                      · exact data_g_true_false _ _ _ _ _ _ _ _ _ _ _ _ _ _ _ _ w hd hs g12 g8 g0 g3 g4 (by have h := ans6 d hr e1; exact h) (by have h := ans6 s hr' e2; exact h) (by have h := ans4 d hr e3; exact h) (by have h := ans4 s hr' e4; exact h)
                      · exact data_g_true_true _ _ _ _ _ _ _ _ _ _ _ _ _ _ _ _ w hd hs g12 g8 g0 g3 g4 (by have h := ans6 d hr e1; exact h) (by have h := ans6 s hr' e2; exact h) (by have h := ans4 d hr e3; exact h) (by have h := ans4 s hr' e4; exact h)
    · exact data_big' k c r r' a b n d s w hd hs
  · exact data_big k c r r' a b n d s w hd
end Go.Proofs.Ytcppckpkiloilaa
