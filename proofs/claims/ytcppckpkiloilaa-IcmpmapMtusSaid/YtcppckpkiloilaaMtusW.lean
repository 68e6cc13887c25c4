/-
  The walk of the law IcmpmapMtus: it returns true, and what was there stays. Condition: the arguments fit their kind.
-/
import Derived.Test.YtcppckpkiloilaaG
import Derived.OpenShut
namespace Go.Proofs.Ytcppckpkiloilaa
open Go.RowKit Go.ChangeAt Go.ChangeShapes Go.WideShapes
set_option linter.unusedSimpArgs false

theorem mtus_pure (x y a b c : Int) (hx : 0 < x) (hxy : x ≤ y) (hy : y ≤ 65535) (ha : 68 ≤ a) (ha' : a ≤ 65535) (hb : 1280 ≤ b) (hbc : b ≤ c) (hc : c ≤ 65535) :
    ∃ K L M N O J : Int, t6 3 4 x a b 0 = some (2, 0, K) ∧ t6 3 4 y a b 0 = some (2, 0, L) ∧ t6 3 4 x a c 0 = some (2, 0, M) ∧ t4 2 0 x a b = some (3, 4, N) ∧ t4 2 0 y a b = some (3, 4, O) ∧ t4 2 0 K a b = some (3, 4, J)
      ∧ K ≤ L ∧ K ≤ M ∧ N ≤ O ∧ J ≤ (if x < 1260 then 1260 else x) ∧ 0 ≤ K ∧ K < 4294967296 ∧ 0 ≤ J ∧ J < 4294967296 := by
  have e6 : ∀ z s : Int, 0 < z → z ≤ 65535 → 1280 ≤ s → s ≤ 65535 → t6 3 4 z a s 0 = some (2, 0, least6 z a s) := by
    intro z s h1 h2 h3 h4
    unfold t6
    rw [if_pos ⟨ha, ha', h3, by omega⟩]
    simp only [u6, l6, mtu6of]
    rw [show z % 65536 = z by omega, if_neg (show ¬ z = 0 by omega)]
    simp
  have e4 : ∀ z : Int, t4 2 0 z a b = some (3, 4, mtu4of z a b) := by
    intro z
    unfold t4
    rw [if_pos ⟨ha, ha', hb, by omega⟩]
    simp [u4]
  refine ⟨_, _, _, _, _, _, e6 x b hx (by omega) hb (by omega), e6 y b (by omega) hy hb (by omega), e6 x c hx (by omega) (by omega) hc, e4 x, e4 y, e4 _, ?_, ?_, ?_, ?_, ?_, ?_, ?_, ?_⟩
  · unfold least6; omega
  · unfold least6; omega
  · unfold mtu4of min4; omega
  · unfold mtu4of min4 least6; omega
  · unfold least6; omega
  · unfold least6; omega
  · unfold mtu4of min4 least6; omega
  · unfold mtu4of min4 least6; omega

set_option maxHeartbeats 4000000 in
theorem mtus_le_a (x y p q r : Int) (w : World) (hx : 0 < x) (hxy : x ≤ y) (hy : y ≤ 65535) (_hp0 : 0 ≤ p) (_hp : p ≤ 65535) (_hq0 : 0 ≤ q) (_hq : q ≤ 65535) (_hr0 : 0 ≤ r) (_hr : r ≤ 65535) (hbc : (if q < 1280 then 1280 else q) ≤ (if r < 1280 then 1280 else r)) :
    Calls Try.prog 3 #[.int .u16 x, .int .u16 y, .int .u16 p, .int .u16 q, .int .u16 r] w fun e w' => e = .returned (.bool true) ∧ Below w.heap.size w w' := by
  obtain ⟨K, L, M, N, O, J, h1, h2, h3, h4, h5, h6, g1, g2, g3, g4, gK, gK', gJ, gJ'⟩ := mtus_pure x y (if p < 68 then 68 else p) (if q < 1280 then 1280 else q) (if r < 1280 then 1280 else r) hx (by omega) hy (by omega) (by omega) (by omega) (by omega) (by omega)
  have c1 := fun w => to6_is (d := ⟨#[]⟩) (by omega) (by omega) h1 w
  have c2 := fun w => to6_is (d := ⟨#[]⟩) (by omega) (by omega) h2 w
  have c3 := fun w => to6_is (d := ⟨#[]⟩) (by omega) (by omega) h3 w
  have c4 := fun w => to4_is (d := ⟨#[]⟩) (by omega) (by omega) h4 w
  have c5 := fun w => to4_is (d := ⟨#[]⟩) (by omega) (by omega) h5 w
  have c6 := fun w => to4_is (d := ⟨#[]⟩) gK gK' h6 w
  clear h1 h2 h3 h4 h5 h6
  go_enter Try.func3, Try.ntmps3
  go_wp2_with (first | (go_at_call 11; (with_reducible refine (awake_any _).mono ?_); rintro e w1 ⟨rfl, hb1⟩) | (go_at_call 12; (with_reducible refine (c1 _).mono ?_); rintro e w2 ⟨rfl, hb2⟩) | (go_at_call 12; (with_reducible refine (c2 _).mono ?_); rintro e w3 ⟨rfl, hb3⟩; have BK2 := (Blk.new _ _).below hb3) | (go_at_call 12; (with_reducible refine (c3 _).mono ?_); rintro e w4 ⟨rfl, hb4⟩; have BK3 := (BK2.alloc _).below hb4; have BL3 := (Blk.new _ _).below hb4) | (go_at_call 13; (with_reducible refine (c4 _).mono ?_); rintro e w5 ⟨rfl, hb5⟩; have BK4 := (BK3.alloc _).below hb5; have BL4 := (BL3.alloc _).below hb5; have BM4 := (Blk.new _ _).below hb5) | (go_at_call 13; (with_reducible refine (c5 _).mono ?_); rintro e w6 ⟨rfl, hb6⟩; have BK5 := (BK4.alloc _).below hb6; have BL5 := (BL4.alloc _).below hb6; have BM5 := (BM4.alloc _).below hb6; have BN5 := (Blk.new _ _).below hb6; obtain ⟨k0, k1, k2, k3⟩ := (BK5.alloc (.cells #[.int .i64 3, .int .i64 4, .int .u32 O, .string ⟨#[]⟩] 26)).four) | (go_at_call 13; (with_reducible refine (c6 _).mono ?_); rintro e w7 ⟨rfl, hb7⟩; have BK6 := (BK5.alloc _).below hb7; have BL6 := (BL5.alloc _).below hb7; have BM6 := (BM5.alloc _).below hb7; have BN6 := (BN5.alloc _).below hb7; have BO6 := (Blk.new _ _).below hb7; obtain ⟨ke0, ke1, ke2, ke3⟩ := (BK6.alloc (.cells #[.int .i64 3, .int .i64 4, .int .u32 J, .string ⟨#[]⟩] 26)).four; obtain ⟨le0, le1, le2, le3⟩ := (BL6.alloc (.cells #[.int .i64 3, .int .i64 4, .int .u32 J, .string ⟨#[]⟩] 26)).four; obtain ⟨me0, me1, me2, me3⟩ := (BM6.alloc (.cells #[.int .i64 3, .int .i64 4, .int .u32 J, .string ⟨#[]⟩] 26)).four; obtain ⟨ne0, ne1, ne2, ne3⟩ := (BN6.alloc (.cells #[.int .i64 3, .int .i64 4, .int .u32 J, .string ⟨#[]⟩] 26)).four; obtain ⟨oe0, oe1, oe2, oe3⟩ := (BO6.alloc (.cells #[.int .i64 3, .int .i64 4, .int .u32 J, .string ⟨#[]⟩] 26)).four))
  all_goals go_ret
  all_goals have H1 := hb1
  all_goals have H2 : Below w.heap.size w w2 := H1.trans (hb2.mono H1.size)
  all_goals have H3 : Below w.heap.size w w3 := (H2.alloc H2.size _).trans (hb3.mono (by have := H2.size; simp; omega))
  all_goals have H4 : Below w.heap.size w w4 := (H3.alloc H3.size _).trans (hb4.mono (by have := H3.size; simp; omega))
  all_goals have H5 : Below w.heap.size w w5 := (H4.alloc H4.size _).trans (hb5.mono (by have := H4.size; simp; omega))
  all_goals have H6 : Below w.heap.size w w6 := (H5.alloc H5.size _).trans (hb6.mono (by have := H5.size; simp; omega))
  all_goals have H7 : Below w.heap.size w w7 := (H6.alloc H6.size _).trans (hb7.mono (by have := H6.size; simp; omega))
  all_goals exact ⟨rfl, by first | exact H7.alloc H7.size _ | go_grown⟩
set_option maxHeartbeats 4000000 in
theorem mtus_le_b (x y p q r : Int) (w : World) (hx : 0 < x) (hxy : x ≤ y) (hy : y ≤ 65535) (_hp0 : 0 ≤ p) (_hp : p ≤ 65535) (_hq0 : 0 ≤ q) (_hq : q ≤ 65535) (_hr0 : 0 ≤ r) (_hr : r ≤ 65535) (hq1 : 1280 < q) (hr1 : r < 1280) :
    Calls Try.prog 3 #[.int .u16 x, .int .u16 y, .int .u16 p, .int .u16 q, .int .u16 r] w fun e w' => e = .returned (.bool true) ∧ Below w.heap.size w w' := by
  obtain ⟨K, L, M, N, O, J, h1, h2, h3, h4, h5, h6, g1, g2, g3, g4, gK, gK', gJ, gJ'⟩ := mtus_pure x y (if p < 68 then 68 else p) 1280 q hx (by omega) hy (by omega) (by omega) (by omega) (by omega) (by omega)
  have c1 := fun w => to6_is (d := ⟨#[]⟩) (by omega) (by omega) h1 w
  have c2 := fun w => to6_is (d := ⟨#[]⟩) (by omega) (by omega) h2 w
  have c3 := fun w => to6_is (d := ⟨#[]⟩) (by omega) (by omega) h3 w
  have c4 := fun w => to4_is (d := ⟨#[]⟩) (by omega) (by omega) h4 w
  have c5 := fun w => to4_is (d := ⟨#[]⟩) (by omega) (by omega) h5 w
  have c6 := fun w => to4_is (d := ⟨#[]⟩) gK gK' h6 w
  clear h1 h2 h3 h4 h5 h6
  go_enter Try.func3, Try.ntmps3
  go_wp2_with (first | (go_at_call 11; (with_reducible refine (awake_any _).mono ?_); rintro e w1 ⟨rfl, hb1⟩) | (go_at_call 12; (with_reducible refine (c1 _).mono ?_); rintro e w2 ⟨rfl, hb2⟩) | (go_at_call 12; (with_reducible refine (c2 _).mono ?_); rintro e w3 ⟨rfl, hb3⟩; have BK2 := (Blk.new _ _).below hb3) | (go_at_call 12; (with_reducible refine (c3 _).mono ?_); rintro e w4 ⟨rfl, hb4⟩; have BK3 := (BK2.alloc _).below hb4; have BL3 := (Blk.new _ _).below hb4) | (go_at_call 13; (with_reducible refine (c4 _).mono ?_); rintro e w5 ⟨rfl, hb5⟩; have BK4 := (BK3.alloc _).below hb5; have BL4 := (BL3.alloc _).below hb5; have BM4 := (Blk.new _ _).below hb5) | (go_at_call 13; (with_reducible refine (c5 _).mono ?_); rintro e w6 ⟨rfl, hb6⟩; have BK5 := (BK4.alloc _).below hb6; have BL5 := (BL4.alloc _).below hb6; have BM5 := (BM4.alloc _).below hb6; have BN5 := (Blk.new _ _).below hb6; obtain ⟨k0, k1, k2, k3⟩ := (BK5.alloc (.cells #[.int .i64 3, .int .i64 4, .int .u32 O, .string ⟨#[]⟩] 26)).four) | (go_at_call 13; (with_reducible refine (c6 _).mono ?_); rintro e w7 ⟨rfl, hb7⟩; have BK6 := (BK5.alloc _).below hb7; have BL6 := (BL5.alloc _).below hb7; have BM6 := (BM5.alloc _).below hb7; have BN6 := (BN5.alloc _).below hb7; have BO6 := (Blk.new _ _).below hb7; obtain ⟨ke0, ke1, ke2, ke3⟩ := (BK6.alloc (.cells #[.int .i64 3, .int .i64 4, .int .u32 J, .string ⟨#[]⟩] 26)).four; obtain ⟨le0, le1, le2, le3⟩ := (BL6.alloc (.cells #[.int .i64 3, .int .i64 4, .int .u32 J, .string ⟨#[]⟩] 26)).four; obtain ⟨me0, me1, me2, me3⟩ := (BM6.alloc (.cells #[.int .i64 3, .int .i64 4, .int .u32 J, .string ⟨#[]⟩] 26)).four; obtain ⟨ne0, ne1, ne2, ne3⟩ := (BN6.alloc (.cells #[.int .i64 3, .int .i64 4, .int .u32 J, .string ⟨#[]⟩] 26)).four; obtain ⟨oe0, oe1, oe2, oe3⟩ := (BO6.alloc (.cells #[.int .i64 3, .int .i64 4, .int .u32 J, .string ⟨#[]⟩] 26)).four))
  all_goals go_ret
  all_goals have H1 := hb1
  all_goals have H2 : Below w.heap.size w w2 := H1.trans (hb2.mono H1.size)
  all_goals have H3 : Below w.heap.size w w3 := (H2.alloc H2.size _).trans (hb3.mono (by have := H2.size; simp; omega))
  all_goals have H4 : Below w.heap.size w w4 := (H3.alloc H3.size _).trans (hb4.mono (by have := H3.size; simp; omega))
  all_goals have H5 : Below w.heap.size w w5 := (H4.alloc H4.size _).trans (hb5.mono (by have := H4.size; simp; omega))
  all_goals have H6 : Below w.heap.size w w6 := (H5.alloc H5.size _).trans (hb6.mono (by have := H5.size; simp; omega))
  all_goals have H7 : Below w.heap.size w w7 := (H6.alloc H6.size _).trans (hb7.mono (by have := H6.size; simp; omega))
  all_goals exact ⟨rfl, by first | exact H7.alloc H7.size _ | go_grown⟩
set_option maxHeartbeats 4000000 in
theorem mtus_le_c (x y p q r : Int) (w : World) (hx : 0 < x) (hxy : x ≤ y) (hy : y ≤ 65535) (_hp0 : 0 ≤ p) (_hp : p ≤ 65535) (_hq0 : 0 ≤ q) (_hq : q ≤ 65535) (_hr0 : 0 ≤ r) (_hr : r ≤ 65535) (hr1 : 1280 ≤ r) (hrq : r < q) :
    Calls Try.prog 3 #[.int .u16 x, .int .u16 y, .int .u16 p, .int .u16 q, .int .u16 r] w fun e w' => e = .returned (.bool true) ∧ Below w.heap.size w w' := by
  obtain ⟨K, L, M, N, O, J, h1, h2, h3, h4, h5, h6, g1, g2, g3, g4, gK, gK', gJ, gJ'⟩ := mtus_pure x y (if p < 68 then 68 else p) r q hx (by omega) hy (by omega) (by omega) (by omega) (by omega) (by omega)
  have c1 := fun w => to6_is (d := ⟨#[]⟩) (by omega) (by omega) h1 w
  have c2 := fun w => to6_is (d := ⟨#[]⟩) (by omega) (by omega) h2 w
  have c3 := fun w => to6_is (d := ⟨#[]⟩) (by omega) (by omega) h3 w
  have c4 := fun w => to4_is (d := ⟨#[]⟩) (by omega) (by omega) h4 w
  have c5 := fun w => to4_is (d := ⟨#[]⟩) (by omega) (by omega) h5 w
  have c6 := fun w => to4_is (d := ⟨#[]⟩) gK gK' h6 w
  clear h1 h2 h3 h4 h5 h6
  go_enter Try.func3, Try.ntmps3
  go_wp2_with (first | (go_at_call 11; (with_reducible refine (awake_any _).mono ?_); rintro e w1 ⟨rfl, hb1⟩) | (go_at_call 12; (with_reducible refine (c1 _).mono ?_); rintro e w2 ⟨rfl, hb2⟩) | (go_at_call 12; (with_reducible refine (c2 _).mono ?_); rintro e w3 ⟨rfl, hb3⟩; have BK2 := (Blk.new _ _).below hb3) | (go_at_call 12; (with_reducible refine (c3 _).mono ?_); rintro e w4 ⟨rfl, hb4⟩; have BK3 := (BK2.alloc _).below hb4; have BL3 := (Blk.new _ _).below hb4) | (go_at_call 13; (with_reducible refine (c4 _).mono ?_); rintro e w5 ⟨rfl, hb5⟩; have BK4 := (BK3.alloc _).below hb5; have BL4 := (BL3.alloc _).below hb5; have BM4 := (Blk.new _ _).below hb5) | (go_at_call 13; (with_reducible refine (c5 _).mono ?_); rintro e w6 ⟨rfl, hb6⟩; have BK5 := (BK4.alloc _).below hb6; have BL5 := (BL4.alloc _).below hb6; have BM5 := (BM4.alloc _).below hb6; have BN5 := (Blk.new _ _).below hb6; obtain ⟨k0, k1, k2, k3⟩ := (BK5.alloc (.cells #[.int .i64 3, .int .i64 4, .int .u32 O, .string ⟨#[]⟩] 26)).four) | (go_at_call 13; (with_reducible refine (c6 _).mono ?_); rintro e w7 ⟨rfl, hb7⟩; have BK6 := (BK5.alloc _).below hb7; have BL6 := (BL5.alloc _).below hb7; have BM6 := (BM5.alloc _).below hb7; have BN6 := (BN5.alloc _).below hb7; have BO6 := (Blk.new _ _).below hb7; obtain ⟨ke0, ke1, ke2, ke3⟩ := (BK6.alloc (.cells #[.int .i64 3, .int .i64 4, .int .u32 J, .string ⟨#[]⟩] 26)).four; obtain ⟨le0, le1, le2, le3⟩ := (BL6.alloc (.cells #[.int .i64 3, .int .i64 4, .int .u32 J, .string ⟨#[]⟩] 26)).four; obtain ⟨me0, me1, me2, me3⟩ := (BM6.alloc (.cells #[.int .i64 3, .int .i64 4, .int .u32 J, .string ⟨#[]⟩] 26)).four; obtain ⟨ne0, ne1, ne2, ne3⟩ := (BN6.alloc (.cells #[.int .i64 3, .int .i64 4, .int .u32 J, .string ⟨#[]⟩] 26)).four; obtain ⟨oe0, oe1, oe2, oe3⟩ := (BO6.alloc (.cells #[.int .i64 3, .int .i64 4, .int .u32 J, .string ⟨#[]⟩] 26)).four))
  all_goals go_ret
  all_goals have H1 := hb1
  all_goals have H2 : Below w.heap.size w w2 := H1.trans (hb2.mono H1.size)
  all_goals have H3 : Below w.heap.size w w3 := (H2.alloc H2.size _).trans (hb3.mono (by have := H2.size; simp; omega))
  all_goals have H4 : Below w.heap.size w w4 := (H3.alloc H3.size _).trans (hb4.mono (by have := H3.size; simp; omega))
  all_goals have H5 : Below w.heap.size w w5 := (H4.alloc H4.size _).trans (hb5.mono (by have := H4.size; simp; omega))
  all_goals have H6 : Below w.heap.size w w6 := (H5.alloc H5.size _).trans (hb6.mono (by have := H5.size; simp; omega))
  all_goals have H7 : Below w.heap.size w w7 := (H6.alloc H6.size _).trans (hb7.mono (by have := H6.size; simp; omega))
  all_goals exact ⟨rfl, by first | exact H7.alloc H7.size _ | go_grown⟩
set_option maxHeartbeats 4000000 in
theorem mtus_gt_a (x y p q r : Int) (w : World) (hx : 0 < x) (hxy : x < y) (hy : y ≤ 65535) (_hp0 : 0 ≤ p) (_hp : p ≤ 65535) (_hq0 : 0 ≤ q) (_hq : q ≤ 65535) (_hr0 : 0 ≤ r) (_hr : r ≤ 65535) (hbc : (if q < 1280 then 1280 else q) ≤ (if r < 1280 then 1280 else r)) :
    Calls Try.prog 3 #[.int .u16 y, .int .u16 x, .int .u16 p, .int .u16 q, .int .u16 r] w fun e w' => e = .returned (.bool true) ∧ Below w.heap.size w w' := by
  obtain ⟨K, L, M, N, O, J, h1, h2, h3, h4, h5, h6, g1, g2, g3, g4, gK, gK', gJ, gJ'⟩ := mtus_pure x y (if p < 68 then 68 else p) (if q < 1280 then 1280 else q) (if r < 1280 then 1280 else r) hx (by omega) hy (by omega) (by omega) (by omega) (by omega) (by omega)
  have c1 := fun w => to6_is (d := ⟨#[]⟩) (by omega) (by omega) h1 w
  have c2 := fun w => to6_is (d := ⟨#[]⟩) (by omega) (by omega) h2 w
  have c3 := fun w => to6_is (d := ⟨#[]⟩) (by omega) (by omega) h3 w
  have c4 := fun w => to4_is (d := ⟨#[]⟩) (by omega) (by omega) h4 w
  have c5 := fun w => to4_is (d := ⟨#[]⟩) (by omega) (by omega) h5 w
  have c6 := fun w => to4_is (d := ⟨#[]⟩) gK gK' h6 w
  clear h1 h2 h3 h4 h5 h6
  go_enter Try.func3, Try.ntmps3
  go_wp2_with (first | (go_at_call 11; (with_reducible refine (awake_any _).mono ?_); rintro e w1 ⟨rfl, hb1⟩) | (go_at_call 12; (with_reducible refine (c1 _).mono ?_); rintro e w2 ⟨rfl, hb2⟩) | (go_at_call 12; (with_reducible refine (c2 _).mono ?_); rintro e w3 ⟨rfl, hb3⟩; have BK2 := (Blk.new _ _).below hb3) | (go_at_call 12; (with_reducible refine (c3 _).mono ?_); rintro e w4 ⟨rfl, hb4⟩; have BK3 := (BK2.alloc _).below hb4; have BL3 := (Blk.new _ _).below hb4) | (go_at_call 13; (with_reducible refine (c4 _).mono ?_); rintro e w5 ⟨rfl, hb5⟩; have BK4 := (BK3.alloc _).below hb5; have BL4 := (BL3.alloc _).below hb5; have BM4 := (Blk.new _ _).below hb5) | (go_at_call 13; (with_reducible refine (c5 _).mono ?_); rintro e w6 ⟨rfl, hb6⟩; have BK5 := (BK4.alloc _).below hb6; have BL5 := (BL4.alloc _).below hb6; have BM5 := (BM4.alloc _).below hb6; have BN5 := (Blk.new _ _).below hb6; obtain ⟨k0, k1, k2, k3⟩ := (BK5.alloc (.cells #[.int .i64 3, .int .i64 4, .int .u32 O, .string ⟨#[]⟩] 26)).four) | (go_at_call 13; (with_reducible refine (c6 _).mono ?_); rintro e w7 ⟨rfl, hb7⟩; have BK6 := (BK5.alloc _).below hb7; have BL6 := (BL5.alloc _).below hb7; have BM6 := (BM5.alloc _).below hb7; have BN6 := (BN5.alloc _).below hb7; have BO6 := (Blk.new _ _).below hb7; obtain ⟨ke0, ke1, ke2, ke3⟩ := (BK6.alloc (.cells #[.int .i64 3, .int .i64 4, .int .u32 J, .string ⟨#[]⟩] 26)).four; obtain ⟨le0, le1, le2, le3⟩ := (BL6.alloc (.cells #[.int .i64 3, .int .i64 4, .int .u32 J, .string ⟨#[]⟩] 26)).four; obtain ⟨me0, me1, me2, me3⟩ := (BM6.alloc (.cells #[.int .i64 3, .int .i64 4, .int .u32 J, .string ⟨#[]⟩] 26)).four; obtain ⟨ne0, ne1, ne2, ne3⟩ := (BN6.alloc (.cells #[.int .i64 3, .int .i64 4, .int .u32 J, .string ⟨#[]⟩] 26)).four; obtain ⟨oe0, oe1, oe2, oe3⟩ := (BO6.alloc (.cells #[.int .i64 3, .int .i64 4, .int .u32 J, .string ⟨#[]⟩] 26)).four))
  all_goals go_ret
  all_goals have H1 := hb1
  all_goals have H2 : Below w.heap.size w w2 := H1.trans (hb2.mono H1.size)
  all_goals have H3 : Below w.heap.size w w3 := (H2.alloc H2.size _).trans (hb3.mono (by have := H2.size; simp; omega))
  all_goals have H4 : Below w.heap.size w w4 := (H3.alloc H3.size _).trans (hb4.mono (by have := H3.size; simp; omega))
  all_goals have H5 : Below w.heap.size w w5 := (H4.alloc H4.size _).trans (hb5.mono (by have := H4.size; simp; omega))
  all_goals have H6 : Below w.heap.size w w6 := (H5.alloc H5.size _).trans (hb6.mono (by have := H5.size; simp; omega))
  all_goals have H7 : Below w.heap.size w w7 := (H6.alloc H6.size _).trans (hb7.mono (by have := H6.size; simp; omega))
  all_goals exact ⟨rfl, by first | exact H7.alloc H7.size _ | go_grown⟩
set_option maxHeartbeats 4000000 in
theorem mtus_gt_b (x y p q r : Int) (w : World) (hx : 0 < x) (hxy : x < y) (hy : y ≤ 65535) (_hp0 : 0 ≤ p) (_hp : p ≤ 65535) (_hq0 : 0 ≤ q) (_hq : q ≤ 65535) (_hr0 : 0 ≤ r) (_hr : r ≤ 65535) (hq1 : 1280 < q) (hr1 : r < 1280) :
    Calls Try.prog 3 #[.int .u16 y, .int .u16 x, .int .u16 p, .int .u16 q, .int .u16 r] w fun e w' => e = .returned (.bool true) ∧ Below w.heap.size w w' := by
  obtain ⟨K, L, M, N, O, J, h1, h2, h3, h4, h5, h6, g1, g2, g3, g4, gK, gK', gJ, gJ'⟩ := mtus_pure x y (if p < 68 then 68 else p) 1280 q hx (by omega) hy (by omega) (by omega) (by omega) (by omega) (by omega)
  have c1 := fun w => to6_is (d := ⟨#[]⟩) (by omega) (by omega) h1 w
  have c2 := fun w => to6_is (d := ⟨#[]⟩) (by omega) (by omega) h2 w
  have c3 := fun w => to6_is (d := ⟨#[]⟩) (by omega) (by omega) h3 w
  have c4 := fun w => to4_is (d := ⟨#[]⟩) (by omega) (by omega) h4 w
  have c5 := fun w => to4_is (d := ⟨#[]⟩) (by omega) (by omega) h5 w
  have c6 := fun w => to4_is (d := ⟨#[]⟩) gK gK' h6 w
  clear h1 h2 h3 h4 h5 h6
  go_enter Try.func3, Try.ntmps3
  go_wp2_with (first | (go_at_call 11; (with_reducible refine (awake_any _).mono ?_); rintro e w1 ⟨rfl, hb1⟩) | (go_at_call 12; (with_reducible refine (c1 _).mono ?_); rintro e w2 ⟨rfl, hb2⟩) | (go_at_call 12; (with_reducible refine (c2 _).mono ?_); rintro e w3 ⟨rfl, hb3⟩; have BK2 := (Blk.new _ _).below hb3) | (go_at_call 12; (with_reducible refine (c3 _).mono ?_); rintro e w4 ⟨rfl, hb4⟩; have BK3 := (BK2.alloc _).below hb4; have BL3 := (Blk.new _ _).below hb4) | (go_at_call 13; (with_reducible refine (c4 _).mono ?_); rintro e w5 ⟨rfl, hb5⟩; have BK4 := (BK3.alloc _).below hb5; have BL4 := (BL3.alloc _).below hb5; have BM4 := (Blk.new _ _).below hb5) | (go_at_call 13; (with_reducible refine (c5 _).mono ?_); rintro e w6 ⟨rfl, hb6⟩; have BK5 := (BK4.alloc _).below hb6; have BL5 := (BL4.alloc _).below hb6; have BM5 := (BM4.alloc _).below hb6; have BN5 := (Blk.new _ _).below hb6; obtain ⟨k0, k1, k2, k3⟩ := (BK5.alloc (.cells #[.int .i64 3, .int .i64 4, .int .u32 O, .string ⟨#[]⟩] 26)).four) | (go_at_call 13; (with_reducible refine (c6 _).mono ?_); rintro e w7 ⟨rfl, hb7⟩; have BK6 := (BK5.alloc _).below hb7; have BL6 := (BL5.alloc _).below hb7; have BM6 := (BM5.alloc _).below hb7; have BN6 := (BN5.alloc _).below hb7; have BO6 := (Blk.new _ _).below hb7; obtain ⟨ke0, ke1, ke2, ke3⟩ := (BK6.alloc (.cells #[.int .i64 3, .int .i64 4, .int .u32 J, .string ⟨#[]⟩] 26)).four; obtain ⟨le0, le1, le2, le3⟩ := (BL6.alloc (.cells #[.int .i64 3, .int .i64 4, .int .u32 J, .string ⟨#[]⟩] 26)).four; obtain ⟨me0, me1, me2, me3⟩ := (BM6.alloc (.cells #[.int .i64 3, .int .i64 4, .int .u32 J, .string ⟨#[]⟩] 26)).four; obtain ⟨ne0, ne1, ne2, ne3⟩ := (BN6.alloc (.cells #[.int .i64 3, .int .i64 4, .int .u32 J, .string ⟨#[]⟩] 26)).four; obtain ⟨oe0, oe1, oe2, oe3⟩ := (BO6.alloc (.cells #[.int .i64 3, .int .i64 4, .int .u32 J, .string ⟨#[]⟩] 26)).four))
  all_goals go_ret
  all_goals have H1 := hb1
  all_goals have H2 : Below w.heap.size w w2 := H1.trans (hb2.mono H1.size)
  all_goals have H3 : Below w.heap.size w w3 := (H2.alloc H2.size _).trans (hb3.mono (by have := H2.size; simp; omega))
  all_goals have H4 : Below w.heap.size w w4 := (H3.alloc H3.size _).trans (hb4.mono (by have := H3.size; simp; omega))
  all_goals have H5 : Below w.heap.size w w5 := (H4.alloc H4.size _).trans (hb5.mono (by have := H4.size; simp; omega))
  all_goals have H6 : Below w.heap.size w w6 := (H5.alloc H5.size _).trans (hb6.mono (by have := H5.size; simp; omega))
  all_goals have H7 : Below w.heap.size w w7 := (H6.alloc H6.size _).trans (hb7.mono (by have := H6.size; simp; omega))
  all_goals exact ⟨rfl, by first | exact H7.alloc H7.size _ | go_grown⟩
set_option maxHeartbeats 4000000 in
theorem mtus_gt_c (x y p q r : Int) (w : World) (hx : 0 < x) (hxy : x < y) (hy : y ≤ 65535) (_hp0 : 0 ≤ p) (_hp : p ≤ 65535) (_hq0 : 0 ≤ q) (_hq : q ≤ 65535) (_hr0 : 0 ≤ r) (_hr : r ≤ 65535) (hr1 : 1280 ≤ r) (hrq : r < q) :
    Calls Try.prog 3 #[.int .u16 y, .int .u16 x, .int .u16 p, .int .u16 q, .int .u16 r] w fun e w' => e = .returned (.bool true) ∧ Below w.heap.size w w' := by
  obtain ⟨K, L, M, N, O, J, h1, h2, h3, h4, h5, h6, g1, g2, g3, g4, gK, gK', gJ, gJ'⟩ := mtus_pure x y (if p < 68 then 68 else p) r q hx (by omega) hy (by omega) (by omega) (by omega) (by omega) (by omega)
  have c1 := fun w => to6_is (d := ⟨#[]⟩) (by omega) (by omega) h1 w
  have c2 := fun w => to6_is (d := ⟨#[]⟩) (by omega) (by omega) h2 w
  have c3 := fun w => to6_is (d := ⟨#[]⟩) (by omega) (by omega) h3 w
  have c4 := fun w => to4_is (d := ⟨#[]⟩) (by omega) (by omega) h4 w
  have c5 := fun w => to4_is (d := ⟨#[]⟩) (by omega) (by omega) h5 w
  have c6 := fun w => to4_is (d := ⟨#[]⟩) gK gK' h6 w
  clear h1 h2 h3 h4 h5 h6
  go_enter Try.func3, Try.ntmps3
  go_wp2_with (first | (go_at_call 11; (with_reducible refine (awake_any _).mono ?_); rintro e w1 ⟨rfl, hb1⟩) | (go_at_call 12; (with_reducible refine (c1 _).mono ?_); rintro e w2 ⟨rfl, hb2⟩) | (go_at_call 12; (with_reducible refine (c2 _).mono ?_); rintro e w3 ⟨rfl, hb3⟩; have BK2 := (Blk.new _ _).below hb3) | (go_at_call 12; (with_reducible refine (c3 _).mono ?_); rintro e w4 ⟨rfl, hb4⟩; have BK3 := (BK2.alloc _).below hb4; have BL3 := (Blk.new _ _).below hb4) | (go_at_call 13; (with_reducible refine (c4 _).mono ?_); rintro e w5 ⟨rfl, hb5⟩; have BK4 := (BK3.alloc _).below hb5; have BL4 := (BL3.alloc _).below hb5; have BM4 := (Blk.new _ _).below hb5) | (go_at_call 13; (with_reducible refine (c5 _).mono ?_); rintro e w6 ⟨rfl, hb6⟩; have BK5 := (BK4.alloc _).below hb6; have BL5 := (BL4.alloc _).below hb6; have BM5 := (BM4.alloc _).below hb6; have BN5 := (Blk.new _ _).below hb6; obtain ⟨k0, k1, k2, k3⟩ := (BK5.alloc (.cells #[.int .i64 3, .int .i64 4, .int .u32 O, .string ⟨#[]⟩] 26)).four) | (go_at_call 13; (with_reducible refine (c6 _).mono ?_); rintro e w7 ⟨rfl, hb7⟩; have BK6 := (BK5.alloc _).below hb7; have BL6 := (BL5.alloc _).below hb7; have BM6 := (BM5.alloc _).below hb7; have BN6 := (BN5.alloc _).below hb7; have BO6 := (Blk.new _ _).below hb7; obtain ⟨ke0, ke1, ke2, ke3⟩ := (BK6.alloc (.cells #[.int .i64 3, .int .i64 4, .int .u32 J, .string ⟨#[]⟩] 26)).four; obtain ⟨le0, le1, le2, le3⟩ := (BL6.alloc (.cells #[.int .i64 3, .int .i64 4, .int .u32 J, .string ⟨#[]⟩] 26)).four; obtain ⟨me0, me1, me2, me3⟩ := (BM6.alloc (.cells #[.int .i64 3, .int .i64 4, .int .u32 J, .string ⟨#[]⟩] 26)).four; obtain ⟨ne0, ne1, ne2, ne3⟩ := (BN6.alloc (.cells #[.int .i64 3, .int .i64 4, .int .u32 J, .string ⟨#[]⟩] 26)).four; obtain ⟨oe0, oe1, oe2, oe3⟩ := (BO6.alloc (.cells #[.int .i64 3, .int .i64 4, .int .u32 J, .string ⟨#[]⟩] 26)).four))
  all_goals go_ret
  all_goals have H1 := hb1
  all_goals have H2 : Below w.heap.size w w2 := H1.trans (hb2.mono H1.size)
  all_goals have H3 : Below w.heap.size w w3 := (H2.alloc H2.size _).trans (hb3.mono (by have := H2.size; simp; omega))
  all_goals have H4 : Below w.heap.size w w4 := (H3.alloc H3.size _).trans (hb4.mono (by have := H3.size; simp; omega))
  all_goals have H5 : Below w.heap.size w w5 := (H4.alloc H4.size _).trans (hb5.mono (by have := H4.size; simp; omega))
  all_goals have H6 : Below w.heap.size w w6 := (H5.alloc H5.size _).trans (hb6.mono (by have := H5.size; simp; omega))
  all_goals have H7 : Below w.heap.size w w7 := (H6.alloc H6.size _).trans (hb7.mono (by have := H6.size; simp; omega))
  all_goals exact ⟨rfl, by first | exact H7.alloc H7.size _ | go_grown⟩
set_option maxHeartbeats 4000000 in
theorem mtus_zero_a (y p q r : Int) (w : World) (hxy : 0 ≤ y) (_hy : y ≤ 65535) (_hp0 : 0 ≤ p) (_hp : p ≤ 65535) (_hq0 : 0 ≤ q) (_hq : q ≤ 65535) (_hr0 : 0 ≤ r) (_hr : r ≤ 65535) :
    Calls Try.prog 3 #[.int .u16 0, .int .u16 y, .int .u16 p, .int .u16 q, .int .u16 r] w fun e w' => e = .returned (.bool true) ∧ Below w.heap.size w w' := by
  go_enter Try.func3, Try.ntmps3
  go_wp2_with (first | (go_at_call 11; (with_reducible refine (awake_any _).mono ?_); rintro e w1 ⟨rfl, hb1⟩))
  go_ret
  exact ⟨rfl, hb1⟩
set_option maxHeartbeats 4000000 in
theorem mtus_zero_b (y p q r : Int) (w : World) (hxy : 0 < y) (_hy : y ≤ 65535) (_hp0 : 0 ≤ p) (_hp : p ≤ 65535) (_hq0 : 0 ≤ q) (_hq : q ≤ 65535) (_hr0 : 0 ≤ r) (_hr : r ≤ 65535) :
    Calls Try.prog 3 #[.int .u16 y, .int .u16 0, .int .u16 p, .int .u16 q, .int .u16 r] w fun e w' => e = .returned (.bool true) ∧ Below w.heap.size w w' := by
  go_enter Try.func3, Try.ntmps3
  go_wp2_with (first | (go_at_call 11; (with_reducible refine (awake_any _).mono ?_); rintro e w1 ⟨rfl, hb1⟩))
  go_ret
  exact ⟨rfl, hb1⟩
theorem mtus_walk (x y p q r : Int) (w : World) (w0 : (Lit.int .u16 x).wf = true) (w1 : (Lit.int .u16 y).wf = true) (w2 : (Lit.int .u16 p).wf = true) (w3 : (Lit.int .u16 q).wf = true) (w4 : (Lit.int .u16 r).wf = true) :
    Calls Try.prog 3 #[.int .u16 x, .int .u16 y, .int .u16 p, .int .u16 q, .int .u16 r] w fun e w' => e = .returned (.bool true) ∧ Below w.heap.size w w' := by
  have bx := bounds_u16 w0
  have by' := bounds_u16 w1
  have bp := bounds_u16 w2
  have bq := bounds_u16 w3
  have br := bounds_u16 w4
  by_cases h : x ≤ y
  · by_cases h0 : 0 < x
    · by_cases hbc : (if q < 1280 then 1280 else q) ≤ (if r < 1280 then 1280 else r)
      · exact mtus_le_a x y p q r w h0 h (by omega) (by omega) (by omega) (by omega) (by omega) (by omega) (by omega) hbc
      · by_cases hr1 : r < 1280
        · exact mtus_le_b x y p q r w h0 h (by omega) (by omega) (by omega) (by omega) (by omega) (by omega) (by omega) (by omega) hr1
        · exact mtus_le_c x y p q r w h0 h (by omega) (by omega) (by omega) (by omega) (by omega) (by omega) (by omega) (by omega) (by omega)
    · obtain rfl : x = 0 := by omega
      exact mtus_zero_a y p q r w h (by omega) (by omega) (by omega) (by omega) (by omega) (by omega) (by omega)
  · by_cases h0 : 0 < y
    · by_cases hbc : (if q < 1280 then 1280 else q) ≤ (if r < 1280 then 1280 else r)
      · exact mtus_gt_a y x p q r w h0 (by omega) (by omega) (by omega) (by omega) (by omega) (by omega) (by omega) (by omega) hbc
      · by_cases hr1 : r < 1280
        · exact mtus_gt_b y x p q r w h0 (by omega) (by omega) (by omega) (by omega) (by omega) (by omega) (by omega) (by omega) (by omega) hr1
        · exact mtus_gt_c y x p q r w h0 (by omega) (by omega) (by omega) (by omega) (by omega) (by omega) (by omega) (by omega) (by omega) (by omega)
    · obtain rfl : y = 0 := by omega
      exact mtus_zero_b x p q r w (by omega) (by omega) (by omega) (by omega) (by omega) (by omega) (by omega) (by omega)
end Go.Proofs.Ytcppckpkiloilaa
