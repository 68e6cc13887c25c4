/-
  The walk of the law IcmpmapBack, whole: the cases of BackW, joined. Condition: the rest is a uint32.
-/
import Derived.Test.YtcppckpkiloilaaBackW
import Derived.Test.YtcppckpkiloilaaM
namespace Go.Proofs.Ytcppckpkiloilaa
open Go.RowKit

theorem back6_rel (k c r a b n : Int) (_hr : 0 ≤ r ∧ r ≤ 4294967295) : t6 k c r a b n = none ∨ (k = 8 ∧ c = 0 ∧ Sides a b ∧ t6 k c r a b n = some (128, 0, r)) ∨ (k = 0 ∧ c = 0 ∧ Sides a b ∧ t6 k c r a b n = some (129, 0, r))
    ∨ (k ≠ 8 ∧ k ≠ 0 ∧ ∃ x y z, t6 k c r a b n = some (x, y, z) ∧ 0 ≤ z ∧ z < 4294967296 ∧ ((x = 1 ∧ k = 3) ∨ ((x = 3 ∨ x = 4 ∨ (x = 2 ∧ 1280 ≤ z ∧ z ≤ (if b < 1280 then 1280 else b))) ∧ (t4 k c r a b = none)))) := by
  by_cases hs : 68 ≤ a ∧ a ≤ 65535 ∧ 1280 ≤ b ∧ b ≤ 65575
  · unfold t6 u6 l6
    simp only [if_pos hs]
    by_cases h8 : k = 8 ∧ c = 0
    · simp only [if_pos h8]; exact Or.inr (Or.inl ⟨h8.1, h8.2, hs, by trivial⟩)
    · simp only [if_neg h8]
      by_cases h0 : k = 0 ∧ c = 0
      · simp only [if_pos h0]; exact Or.inr (Or.inr (Or.inl ⟨h0.1, h0.2, hs, by trivial⟩))
      · simp only [if_neg h0]
        by_cases h3 : k = 3
        · subst h3
          simp only [if_true]
          by_cases c1 : c = 0 ∨ c = 1 ∨ c = 5 ∨ c = 6 ∨ c = 7 ∨ c = 8 ∨ c = 11 ∨ c = 12
          · simp only [if_pos c1]; exact Or.inr (Or.inr (Or.inr ⟨by decide, by decide, _, _, _, rfl, by decide, by decide, Or.inl ⟨by trivial, by trivial⟩⟩))
          · simp only [if_neg c1]
            have h4 : t4 3 c r a b = none := by
              unfold t4 u4
              rw [if_pos hs]
              have hc : ¬ (c = 0 ∨ c = 1) := by omega
              simp [hc]
            by_cases c2 : c = 9 ∨ c = 10 ∨ c = 13 ∨ c = 15
            · simp only [if_pos c2]; exact Or.inr (Or.inr (Or.inr ⟨by decide, by decide, _, _, _, rfl, by decide, by decide, Or.inl ⟨by trivial, by trivial⟩⟩))
            · simp only [if_neg c2]
              by_cases c3 : c = 3
              · simp only [if_pos c3]; exact Or.inr (Or.inr (Or.inr ⟨by decide, by decide, _, _, _, rfl, by decide, by decide, Or.inl ⟨by trivial, by trivial⟩⟩))
              · simp only [if_neg c3]
                by_cases c5 : c = 2
                · simp only [if_pos c5]; exact Or.inr (Or.inr (Or.inr ⟨by decide, by decide, _, _, _, rfl, by decide, by decide, Or.inr ⟨Or.inr (Or.inl rfl), h4⟩⟩))
                · simp only [if_neg c5]
                  by_cases c4 : c = 4
                  · simp only [if_pos c4]
                    obtain ⟨s1, s2, s3, s4⟩ := hs
                    have hl : ∀ m, 1280 ≤ least6 m a b ∧ least6 m a b ≤ (if b < 1280 then 1280 else b) := by intro m; unfold least6; omega
                    have hm : 1280 ≤ mtu6of r a b n ∧ mtu6of r a b n ≤ (if b < 1280 then 1280 else b) := hl _
                    exact Or.inr (Or.inr (Or.inr ⟨by decide, by decide, _, _, _, rfl, by omega, by omega, Or.inr ⟨Or.inr (Or.inr ⟨rfl, hm.1, hm.2⟩), h4⟩⟩))
                  · simp only [if_neg c4]; exact Or.inl (by trivial)
        · simp only [if_neg h3]
          by_cases h11 : k = 11 ∧ (c = 0 ∨ c = 1)
          · simp only [if_pos h11]
            obtain ⟨rfl, hc⟩ := h11
            refine Or.inr (Or.inr (Or.inr ⟨by decide, by decide, _, _, _, rfl, by decide, by decide, Or.inr ⟨Or.inl rfl, ?_⟩⟩))
            unfold t4 u4; rw [if_pos hs]; simp
          · simp only [if_neg h11]
            by_cases h12 : k = 12 ∧ (c = 0 ∨ c = 2)
            · simp only [if_pos h12]
              obtain ⟨rfl, hc⟩ := h12
              cases hp : p6 (r / 16777216) with
              | none => exact Or.inl (by trivial)
              | some x =>
                have := p6_range hp
                refine Or.inr (Or.inr (Or.inr ⟨by decide, by decide, _, _, _, rfl, by omega, by omega, Or.inr ⟨Or.inr (Or.inl rfl), ?_⟩⟩))
                unfold t4 u4; rw [if_pos hs]; simp
            · simp only [if_neg h12]; exact Or.inl (by trivial)
  · left; unfold t6; rw [if_neg hs]
theorem back4_rel (k c r a b : Int) (_hr : 0 ≤ r ∧ r ≤ 4294967295) : t4 k c r a b = none ∨ (k = 128 ∧ c = 0 ∧ Sides a b ∧ t4 k c r a b = some (8, 0, r)) ∨ (k = 129 ∧ c = 0 ∧ Sides a b ∧ t4 k c r a b = some (0, 0, r))
    ∨ (k < 128 ∧ ∃ x y z, t4 k c r a b = some (x, y, z) ∧ 0 ≤ z ∧ z < 4294967296 ∧ ((x = 11 ∧ k = 3) ∨ ((x = 12 ∨ (x = 3 ∧ y ≠ 4) ∨ (x = 3 ∧ y = 4 ∧ 68 ≤ z ∧ z ≤ a)) ∧ k ≠ 3))) := by
  by_cases hs : 68 ≤ a ∧ a ≤ 65535 ∧ 1280 ≤ b ∧ b ≤ 65575
  · unfold t4 u4 l4
    simp only [if_pos hs]
    by_cases h8 : k = 128 ∧ c = 0
    · simp only [if_pos h8]; exact Or.inr (Or.inl ⟨h8.1, h8.2, hs, by trivial⟩)
    · simp only [if_neg h8]
      by_cases h0 : k = 129 ∧ c = 0
      · simp only [if_pos h0]; exact Or.inr (Or.inr (Or.inl ⟨h0.1, h0.2, hs, by trivial⟩))
      · simp only [if_neg h0]
        by_cases h1 : k = 1
        · subst h1
          simp only [if_true]
          repeat' split
          all_goals first | exact Or.inl (by trivial) | exact Or.inr (Or.inr (Or.inr ⟨by decide, _, _, _, rfl, by decide, by decide, Or.inr ⟨Or.inr (Or.inl ⟨rfl, by decide⟩), by decide⟩⟩))
        · simp only [if_neg h1]
          by_cases h2 : k = 2 ∧ c = 0
          · simp only [if_pos h2]
            obtain ⟨s1, s2, s3, s4⟩ := hs
            have hm : 68 ≤ mtu4of r a b ∧ mtu4of r a b ≤ a := by unfold mtu4of min4; omega
            exact Or.inr (Or.inr (Or.inr ⟨by omega, _, _, _, rfl, by omega, by omega, Or.inr ⟨Or.inr (Or.inr ⟨rfl, rfl, hm.1, hm.2⟩), by omega⟩⟩))
          · simp only [if_neg h2]
            by_cases h3 : k = 3 ∧ (c = 0 ∨ c = 1)
            · simp only [if_pos h3]; exact Or.inr (Or.inr (Or.inr ⟨by omega, _, _, _, rfl, by decide, by decide, Or.inl ⟨rfl, h3.1⟩⟩))
            · simp only [if_neg h3]
              by_cases h4 : k = 4 ∧ c = 0
              · simp only [if_pos h4]
                cases hp : p4 r with
                | none => exact Or.inl (by trivial)
                | some x =>
                  have := p4_range hp
                  exact Or.inr (Or.inr (Or.inr ⟨by omega, _, _, _, rfl, by omega, by omega, Or.inr ⟨Or.inl rfl, by omega⟩⟩))
              · simp only [if_neg h4]
                by_cases h41 : k = 4 ∧ c = 1
                · simp only [if_pos h41]; exact Or.inr (Or.inr (Or.inr ⟨by omega, _, _, _, rfl, by decide, by decide, Or.inr ⟨Or.inr (Or.inl ⟨rfl, by decide⟩), by omega⟩⟩))
                · simp only [if_neg h41]; exact Or.inl (by trivial)
  · left; unfold t4; rw [if_neg hs]
theorem t6_big (k c r a b n : Int) (h : k = 128 ∨ k = 129) : t6 k c r a b n = none := by
  unfold t6 u6
  split
  · rcases h with rfl | rfl <;> simp
  · rfl
theorem t4_eight (k c r a b : Int) (h : k = 8 ∨ k = 0) : t4 k c r a b = none := by
  unfold t4 u4
  split
  · rcases h with rfl | rfl <;> simp
  · rfl
theorem zr {z : Int} (h0 : 0 ≤ z) (h1 : z < 4294967296) : 0 ≤ z ∧ z ≤ 4294967295 := ⟨h0, by omega⟩
theorem bns6 {k c r a b n : Int} (d : ByteArray) {e : Option (Int × Int × Int)} (hr : 0 ≤ r ∧ r ≤ 4294967295) (h : t6 k c r a b n = e) : AnsB 12 #[msgV k c r d, .int .i64 a, .int .i64 b, .int .i64 n] (oK e) (oC e) (oR e) (oS d e) e.isSome :=
  fun w => to6_gen hr.1 (by omega) h rfl rfl rfl rfl rfl w
theorem bns4 {k c r a b : Int} (d : ByteArray) {e : Option (Int × Int × Int)} (hr : 0 ≤ r ∧ r ≤ 4294967295) (h : t4 k c r a b = e) : AnsB 13 #[msgV k c r d, .int .i64 a, .int .i64 b] (oK e) (oC e) (oR e) (oS d e) e.isSome :=
  fun w => to4_gen hr.1 (by omega) h rfl rfl rfl rfl rfl w

theorem back_walk (k c r : Int) (d : ByteArray) (a b n : Int) (w : World) (wr : (Lit.int .u32 r).wf = true) (_ : (Lit.int .i64 a).wf = true) (_ : (Lit.int .i64 b).wf = true) (_ : (Lit.int .i64 n).wf = true) :
    Calls Try.prog 9 #[.agg #[.int .i64 k, .int .i64 c, .int .u32 r, .string d], .int .i64 a, .int .i64 b, .int .i64 n] w fun e w' => e = .returned (.bool true) ∧ Below w.heap.size w w' := by
  have hr := bounds_u32 wr
  by_cases hd : (d.size : Int) ≤ 70000
  · rcases back6_rel k c r a b n hr with e1 | ⟨rfl, rfl, hs, e1⟩ | ⟨rfl, rfl, hs, e1⟩ | ⟨n8, n0, x, y, z, e1, z0, z1, h⟩
    · rcases back4_rel k c r a b hr with e2 | ⟨rfl, rfl, hs, e2⟩ | ⟨rfl, rfl, hs, e2⟩ | ⟨h128, x, y, z, e2, z0, z1, h⟩
      · exact back_none _ _ _ _ _ _ _ w hd (bns6 d hr e1) (bns4 d hr e2)
      · exact back_e128 _ _ _ _ _ w hd (bns6 d hr e1) (bns4 d hr e2) (bns6 d hr (show t6 8 0 r a b n = some (128, 0, r) by unfold t6; rw [if_pos (show 68 ≤ a ∧ a ≤ 65535 ∧ 1280 ≤ b ∧ b ≤ 65575 from hs)]; rfl))
      · exact back_e129 _ _ _ _ _ w hd (bns6 d hr e1) (bns4 d hr e2) (bns6 d hr (show t6 0 0 r a b n = some (129, 0, r) by unfold t6; rw [if_pos (show 68 ≤ a ∧ a ≤ 65535 ∧ 1280 ≤ b ∧ b ≤ 65575 from hs)]; rfl))
      · have h' : x = 11 ∨ x = 12 ∨ (x = 3 ∧ y ≠ 4) ∨ (x = 3 ∧ y = 4 ∧ 68 ≤ z ∧ z ≤ a) := h.elim (fun h => Or.inl h.1) (fun h => Or.inr h.1)
        rcases h' with rfl | rfl | ⟨rfl, hy⟩ | ⟨rfl, rfl, hz, hz'⟩
        · exact back_4_11 _ _ _ _ _ _ _ _ _ _ _ _ _ _ w hd h128 (bns6 d hr e1) (bns4 d hr e2) (bns6 d (zr z0 z1) rfl)
        · exact back_4_12 _ _ _ _ _ _ _ _ _ _ _ _ _ _ w hd h128 (bns6 d hr e1) (bns4 d hr e2) (bns6 d (zr z0 z1) rfl)
        · exact back_4_3 _ _ _ _ _ _ _ _ _ _ _ _ _ _ w hd h128 (show (y == 4) = false by simpa using hy) (bns6 d hr e1) (bns4 d hr e2) (bns6 d (zr z0 z1) rfl)
        · exact back_4_34 _ _ _ _ _ _ _ _ _ _ _ _ _ w hd h128 hz hz' z1 (bns6 d hr e1) (bns4 d hr e2) (bns6 d (zr z0 z1) rfl)
    · exact back_e8 _ _ _ _ _ w hd (bns6 d hr e1) (bns4 d hr (t4_eight _ _ _ _ _ (by simp))) (bns4 d hr (show t4 128 0 r a b = some (8, 0, r) by unfold t4; rw [if_pos (show 68 ≤ a ∧ a ≤ 65535 ∧ 1280 ≤ b ∧ b ≤ 65575 from hs)]; rfl))
    · exact back_e0 _ _ _ _ _ w hd (bns6 d hr e1) (bns4 d hr (t4_eight _ _ _ _ _ (by simp))) (bns4 d hr (show t4 129 0 r a b = some (0, 0, r) by unfold t4; rw [if_pos (show 68 ≤ a ∧ a ≤ 65535 ∧ 1280 ≤ b ∧ b ≤ 65575 from hs)]; rfl))
    · have g8 : (k == 8) = false := by simpa using n8
      have g0 : (k == 0) = false := by simpa using n0
      rcases h with ⟨rfl, rfl⟩ | ⟨h, e2⟩
      · rcases back4_rel 3 c r a b hr with e2 | ⟨h, _⟩ | ⟨h, _⟩ | ⟨h128, x', y', z', e2, z0', z1', h⟩
        · exact back_6_1 _ _ _ _ _ _ _ _ _ _ _ _ _ _ w hd g8 g0 (bns6 d hr e1) (bns4 d hr e2) (bns4 d (zr z0 z1) rfl)
        · exact absurd h (by decide)
        · exact absurd h (by decide)
        · rcases h with ⟨rfl, _⟩ | ⟨_, h⟩
          · exact back_both _ _ _ _ _ _ _ _ _ _ _ _ _ _ _ _ _ _ _ _ w hd (bns6 d hr e1) (bns4 d hr e2) (bns4 d (zr z0 z1) rfl) (bns6 d (zr z0' z1') rfl)
          · exact absurd rfl h
      · rcases h with rfl | rfl | ⟨rfl, hz, hz'⟩
        · exact back_6_3 _ _ _ _ _ _ _ _ _ _ _ _ _ _ w hd g8 g0 (bns6 d hr e1) (bns4 d hr e2) (bns4 d (zr z0 z1) rfl)
        · exact back_6_4 _ _ _ _ _ _ _ _ _ _ _ _ _ _ w hd g8 g0 (bns6 d hr e1) (bns4 d hr e2) (bns4 d (zr z0 z1) rfl)
        · exact back_6_2 _ _ _ _ _ _ _ _ _ _ _ _ _ _ w hd g8 g0 hz hz' z1 (bns6 d hr e1) (bns4 d hr e2) (bns4 d (zr z0 z1) rfl)
  · exact back_big k c r a b n d w hd
end Go.Proofs.Ytcppckpkiloilaa
