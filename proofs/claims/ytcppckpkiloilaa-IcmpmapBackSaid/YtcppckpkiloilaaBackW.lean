/-
  The walk of the law IcmpmapBack, case by case: it returns true, and what was there stays. Conditions stand in each statement.
-/
import Derived.Test.YtcppckpkiloilaaI
import Derived.OpenShut
namespace Go.Proofs.Ytcppckpkiloilaa
open Go.RowKit
set_option linter.unusedSimpArgs false
set_option linter.unusedVariables false

def AnsB (f : Nat) (args : Array Value) (x y z : Int) (s : ByteArray) (q : Bool) : Prop :=
  ∀ w : World, Calls Try.prog f args w fun e w' => e = .returned (.tuple #[.agg #[.int .i64 x, .int .i64 y, .int .u32 z, .string s], .bool q]) ∧ Below w.heap.size w w'
set_option maxRecDepth 100000 in
set_option maxHeartbeats 2000000 in
theorem back_big (k c r a b n : Int) (d : ByteArray) (w : World) (h : ¬ (d.size : Int) ≤ 70000) :
    Calls Try.prog 9 #[msgV k c r d, .int .i64 a, .int .i64 b, .int .i64 n] w fun e w' => e = .returned (.bool true) ∧ Below w.heap.size w w' := by
  have h' : (70000 : Int) < (d.size : Int) := by omega
  clear h
  go_enter Try.func9, Try.ntmps9
  go_wp2_with (first | (go_at_call 11; (with_reducible refine (awake_any _).mono ?_); rintro e w1 ⟨rfl, hb1⟩; have BM1 := (Blk.new _ _).below hb1; obtain ⟨m0, m1, m2, m3⟩ := BM1.four))
  go_ret
  exact ⟨rfl, ((Below.refl _ _).alloc (Nat.le_refl _) _).trans (hb1.mono (by simp))⟩
set_option maxRecDepth 100000 in
set_option maxHeartbeats 8000000 in
theorem back_none (k c r a b n : Int) (d : ByteArray) (w : World) (hd : (d.size : Int) ≤ 70000)
    (a1 : AnsB 12 #[msgV k c r d, .int .i64 a, .int .i64 b, .int .i64 n] 0 0 0 ⟨#[]⟩ false)
    (a2 : AnsB 13 #[msgV k c r d, .int .i64 a, .int .i64 b] 0 0 0 ⟨#[]⟩ false) :
    Calls Try.prog 9 #[msgV k c r d, .int .i64 a, .int .i64 b, .int .i64 n] w fun e w' => e = .returned (.bool true) ∧ Below w.heap.size w w' := by
  have c1 := fun w => a1 w
  have c2 := fun w => a2 w
  clear a1 a2
  have he := eq26
  go_enter Try.func9, Try.ntmps9
  go_wp2_with (first | (go_at_call 11; (with_reducible refine (awake_any _).mono ?_); rintro e w1 ⟨rfl, hb1⟩; have BM1 := (Blk.new _ _).below hb1; obtain ⟨mq10, mq11, mq12, mq13⟩ := BM1.four) | (go_at_call 12; (with_reducible refine (c1 _).mono ?_); rintro e w2 ⟨rfl, hb2⟩; have BM2 := BM1.below hb2; obtain ⟨mq20, mq21, mq22, mq23⟩ := (BM2.alloc (.cells #[.int .i64 0, .int .i64 0, .int .u32 0, .string ⟨#[]⟩] 26)).four) | (go_at_call 13; (with_reducible refine (c2 _).mono ?_); rintro e w3 ⟨rfl, hb3⟩; have BM3 := (BM2.alloc _).below hb3; have BX3 := (Blk.new _ _).below hb3; obtain ⟨mq30, mq31, mq32, mq33⟩ := (BM3.alloc (.cells #[.int .i64 0, .int .i64 0, .int .u32 0, .string ⟨#[]⟩] 26)).four; obtain ⟨xq30, xq31, xq32, xq33⟩ := (BX3.alloc (.cells #[.int .i64 0, .int .i64 0, .int .u32 0, .string ⟨#[]⟩] 26)).four))
  all_goals go_ret
  all_goals have H1 : Below w.heap.size w w1 := ((Below.refl _ _).alloc (Nat.le_refl _) _).trans (hb1.mono (by simp))
  all_goals have H2 : Below w.heap.size w w2 := H1.trans (hb2.mono H1.size)
  all_goals have H3 : Below w.heap.size w w3 := (H2.alloc H2.size _).trans (hb3.mono (by have := H2.size; simp; omega))
  all_goals exact ⟨rfl, H3.alloc H3.size _⟩
set_option maxRecDepth 100000 in
set_option maxHeartbeats 8000000 in
theorem back_e8 (r a b n : Int) (d : ByteArray) (w : World) (hd : (d.size : Int) ≤ 70000)
    (a1 : AnsB 12 #[msgV 8 0 r d, .int .i64 a, .int .i64 b, .int .i64 n] 128 0 r d true)
    (a2 : AnsB 13 #[msgV 8 0 r d, .int .i64 a, .int .i64 b] 0 0 0 ⟨#[]⟩ false)
    (a3 : AnsB 13 #[msgV 128 0 r d, .int .i64 a, .int .i64 b] 8 0 r d true) :
    Calls Try.prog 9 #[msgV 8 0 r d, .int .i64 a, .int .i64 b, .int .i64 n] w fun e w' => e = .returned (.bool true) ∧ Below w.heap.size w w' := by
  have c1 := fun w => a1 w
  have c2 := fun w => a2 w
  have c3 := fun w => a3 w
  clear a1 a2 a3
  have he := eq26
  go_enter Try.func9, Try.ntmps9
  go_wp2_with (first | (go_at_call 11; (with_reducible refine (awake_any _).mono ?_); rintro e w1 ⟨rfl, hb1⟩; have BM1 := (Blk.new _ _).below hb1; obtain ⟨mq10, mq11, mq12, mq13⟩ := BM1.four) | (go_at_call 12; (with_reducible refine (c1 _).mono ?_); rintro e w2 ⟨rfl, hb2⟩; have BM2 := BM1.below hb2; obtain ⟨mq20, mq21, mq22, mq23⟩ := (BM2.alloc (.cells #[.int .i64 128, .int .i64 0, .int .u32 r, .string d] 26)).four) | (go_at_call 13; (with_reducible refine (c2 _).mono ?_); rintro e w3 ⟨rfl, hb3⟩; have BM3 := (BM2.alloc _).below hb3; have BX3 := (Blk.new _ _).below hb3; obtain ⟨mq30, mq31, mq32, mq33⟩ := (BM3.alloc (.cells #[.int .i64 0, .int .i64 0, .int .u32 0, .string ⟨#[]⟩] 26)).four; obtain ⟨xq30, xq31, xq32, xq33⟩ := (BX3.alloc (.cells #[.int .i64 0, .int .i64 0, .int .u32 0, .string ⟨#[]⟩] 26)).four) | (go_at_call 13; (with_reducible refine (c3 _).mono ?_); rintro e w4 ⟨rfl, hb4⟩; have BM4 := (BM3.alloc _).below hb4; have BX4 := (BX3.alloc _).below hb4; have BY4 := (Blk.new _ _).below hb4; obtain ⟨mq40, mq41, mq42, mq43⟩ := (BM4.alloc (.cells #[.int .i64 8, .int .i64 0, .int .u32 r, .string d] 26)).four; obtain ⟨xq40, xq41, xq42, xq43⟩ := (BX4.alloc (.cells #[.int .i64 8, .int .i64 0, .int .u32 r, .string d] 26)).four))
  all_goals go_ret
  all_goals have H1 : Below w.heap.size w w1 := ((Below.refl _ _).alloc (Nat.le_refl _) _).trans (hb1.mono (by simp))
  all_goals have H2 : Below w.heap.size w w2 := H1.trans (hb2.mono H1.size)
  all_goals have H3 : Below w.heap.size w w3 := (H2.alloc H2.size _).trans (hb3.mono (by have := H2.size; simp; omega))
  all_goals have H4 : Below w.heap.size w w4 := (H3.alloc H3.size _).trans (hb4.mono (by have := H3.size; simp; omega))
  all_goals exact ⟨rfl, H4.alloc H4.size _⟩
set_option maxRecDepth 100000 in
set_option maxHeartbeats 8000000 in
theorem back_e0 (r a b n : Int) (d : ByteArray) (w : World) (hd : (d.size : Int) ≤ 70000)
    (a1 : AnsB 12 #[msgV 0 0 r d, .int .i64 a, .int .i64 b, .int .i64 n] 129 0 r d true)
    (a2 : AnsB 13 #[msgV 0 0 r d, .int .i64 a, .int .i64 b] 0 0 0 ⟨#[]⟩ false)
    (a3 : AnsB 13 #[msgV 129 0 r d, .int .i64 a, .int .i64 b] 0 0 r d true) :
    Calls Try.prog 9 #[msgV 0 0 r d, .int .i64 a, .int .i64 b, .int .i64 n] w fun e w' => e = .returned (.bool true) ∧ Below w.heap.size w w' := by
  have c1 := fun w => a1 w
  have c2 := fun w => a2 w
  have c3 := fun w => a3 w
  clear a1 a2 a3
  have he := eq26
  go_enter Try.func9, Try.ntmps9
  go_wp2_with (first | (go_at_call 11; (with_reducible refine (awake_any _).mono ?_); rintro e w1 ⟨rfl, hb1⟩; have BM1 := (Blk.new _ _).below hb1; obtain ⟨mq10, mq11, mq12, mq13⟩ := BM1.four) | (go_at_call 12; (with_reducible refine (c1 _).mono ?_); rintro e w2 ⟨rfl, hb2⟩; have BM2 := BM1.below hb2; obtain ⟨mq20, mq21, mq22, mq23⟩ := (BM2.alloc (.cells #[.int .i64 129, .int .i64 0, .int .u32 r, .string d] 26)).four) | (go_at_call 13; (with_reducible refine (c2 _).mono ?_); rintro e w3 ⟨rfl, hb3⟩; have BM3 := (BM2.alloc _).below hb3; have BX3 := (Blk.new _ _).below hb3; obtain ⟨mq30, mq31, mq32, mq33⟩ := (BM3.alloc (.cells #[.int .i64 0, .int .i64 0, .int .u32 0, .string ⟨#[]⟩] 26)).four; obtain ⟨xq30, xq31, xq32, xq33⟩ := (BX3.alloc (.cells #[.int .i64 0, .int .i64 0, .int .u32 0, .string ⟨#[]⟩] 26)).four) | (go_at_call 13; (with_reducible refine (c3 _).mono ?_); rintro e w4 ⟨rfl, hb4⟩; have BM4 := (BM3.alloc _).below hb4; have BX4 := (BX3.alloc _).below hb4; have BY4 := (Blk.new _ _).below hb4; obtain ⟨mq40, mq41, mq42, mq43⟩ := (BM4.alloc (.cells #[.int .i64 0, .int .i64 0, .int .u32 r, .string d] 26)).four; obtain ⟨xq40, xq41, xq42, xq43⟩ := (BX4.alloc (.cells #[.int .i64 0, .int .i64 0, .int .u32 r, .string d] 26)).four))
  all_goals go_ret
  all_goals have H1 : Below w.heap.size w w1 := ((Below.refl _ _).alloc (Nat.le_refl _) _).trans (hb1.mono (by simp))
  all_goals have H2 : Below w.heap.size w w2 := H1.trans (hb2.mono H1.size)
  all_goals have H3 : Below w.heap.size w w3 := (H2.alloc H2.size _).trans (hb3.mono (by have := H2.size; simp; omega))
  all_goals have H4 : Below w.heap.size w w4 := (H3.alloc H3.size _).trans (hb4.mono (by have := H3.size; simp; omega))
  all_goals exact ⟨rfl, H4.alloc H4.size _⟩
set_option maxRecDepth 100000 in
set_option maxHeartbeats 8000000 in
theorem back_6_1 (k c r a b n y z x1 y1 z1 : Int) (d : ByteArray) (s1 : ByteArray) (q1 : Bool) (w : World) (hd : (d.size : Int) ≤ 70000) (h8 : (k == 8) = false) (h0 : (k == 0) = false)
    (a1 : AnsB 12 #[msgV k c r d, .int .i64 a, .int .i64 b, .int .i64 n] 1 y z d true)
    (a2 : AnsB 13 #[msgV k c r d, .int .i64 a, .int .i64 b] 0 0 0 ⟨#[]⟩ false)
    (a3 : AnsB 13 #[msgV 1 y z d, .int .i64 a, .int .i64 b] x1 y1 z1 s1 q1) :
    Calls Try.prog 9 #[msgV k c r d, .int .i64 a, .int .i64 b, .int .i64 n] w fun e w' => e = .returned (.bool true) ∧ Below w.heap.size w w' := by
  have c1 := fun w => a1 w
  have c2 := fun w => a2 w
  have c3 := fun w => a3 w
  clear a1 a2 a3
  have he := eq26
  go_enter Try.func9, Try.ntmps9
  go_wp2_with (first | (go_at_call 11; (with_reducible refine (awake_any _).mono ?_); rintro e w1 ⟨rfl, hb1⟩; have BM1 := (Blk.new _ _).below hb1; obtain ⟨mq10, mq11, mq12, mq13⟩ := BM1.four) | (go_at_call 12; (with_reducible refine (c1 _).mono ?_); rintro e w2 ⟨rfl, hb2⟩; have BM2 := BM1.below hb2; obtain ⟨mq20, mq21, mq22, mq23⟩ := (BM2.alloc (.cells #[.int .i64 1, .int .i64 y, .int .u32 z, .string d] 26)).four) | (go_at_call 13; (with_reducible refine (c2 _).mono ?_); rintro e w3 ⟨rfl, hb3⟩; have BM3 := (BM2.alloc _).below hb3; have BX3 := (Blk.new _ _).below hb3; obtain ⟨mq30, mq31, mq32, mq33⟩ := (BM3.alloc (.cells #[.int .i64 0, .int .i64 0, .int .u32 0, .string ⟨#[]⟩] 26)).four; obtain ⟨xq30, xq31, xq32, xq33⟩ := (BX3.alloc (.cells #[.int .i64 0, .int .i64 0, .int .u32 0, .string ⟨#[]⟩] 26)).four) | (go_at_call 13; (with_reducible refine (c3 _).mono ?_); rintro e w4 ⟨rfl, hb4⟩; have BM4 := (BM3.alloc _).below hb4; have BX4 := (BX3.alloc _).below hb4; have BY4 := (Blk.new _ _).below hb4; obtain ⟨mq40, mq41, mq42, mq43⟩ := (BM4.alloc (.cells #[.int .i64 x1, .int .i64 y1, .int .u32 z1, .string s1] 26)).four; obtain ⟨xq40, xq41, xq42, xq43⟩ := (BX4.alloc (.cells #[.int .i64 x1, .int .i64 y1, .int .u32 z1, .string s1] 26)).four))
  all_goals go_ret
  all_goals have H1 : Below w.heap.size w w1 := ((Below.refl _ _).alloc (Nat.le_refl _) _).trans (hb1.mono (by simp))
  all_goals have H2 : Below w.heap.size w w2 := H1.trans (hb2.mono H1.size)
  all_goals have H3 : Below w.heap.size w w3 := (H2.alloc H2.size _).trans (hb3.mono (by have := H2.size; simp; omega))
  all_goals have H4 : Below w.heap.size w w4 := (H3.alloc H3.size _).trans (hb4.mono (by have := H3.size; simp; omega))
  all_goals exact ⟨rfl, H4.alloc H4.size _⟩
set_option maxRecDepth 100000 in
set_option maxHeartbeats 8000000 in
theorem back_6_3 (k c r a b n y z x1 y1 z1 : Int) (d : ByteArray) (s1 : ByteArray) (q1 : Bool) (w : World) (hd : (d.size : Int) ≤ 70000) (h8 : (k == 8) = false) (h0 : (k == 0) = false)
    (a1 : AnsB 12 #[msgV k c r d, .int .i64 a, .int .i64 b, .int .i64 n] 3 y z d true)
    (a2 : AnsB 13 #[msgV k c r d, .int .i64 a, .int .i64 b] 0 0 0 ⟨#[]⟩ false)
    (a3 : AnsB 13 #[msgV 3 y z d, .int .i64 a, .int .i64 b] x1 y1 z1 s1 q1) :
    Calls Try.prog 9 #[msgV k c r d, .int .i64 a, .int .i64 b, .int .i64 n] w fun e w' => e = .returned (.bool true) ∧ Below w.heap.size w w' := by
  have c1 := fun w => a1 w
  have c2 := fun w => a2 w
  have c3 := fun w => a3 w
  clear a1 a2 a3
  have he := eq26
  go_enter Try.func9, Try.ntmps9
  go_wp2_with (first | (go_at_call 11; (with_reducible refine (awake_any _).mono ?_); rintro e w1 ⟨rfl, hb1⟩; have BM1 := (Blk.new _ _).below hb1; obtain ⟨mq10, mq11, mq12, mq13⟩ := BM1.four) | (go_at_call 12; (with_reducible refine (c1 _).mono ?_); rintro e w2 ⟨rfl, hb2⟩; have BM2 := BM1.below hb2; obtain ⟨mq20, mq21, mq22, mq23⟩ := (BM2.alloc (.cells #[.int .i64 3, .int .i64 y, .int .u32 z, .string d] 26)).four) | (go_at_call 13; (with_reducible refine (c2 _).mono ?_); rintro e w3 ⟨rfl, hb3⟩; have BM3 := (BM2.alloc _).below hb3; have BX3 := (Blk.new _ _).below hb3; obtain ⟨mq30, mq31, mq32, mq33⟩ := (BM3.alloc (.cells #[.int .i64 0, .int .i64 0, .int .u32 0, .string ⟨#[]⟩] 26)).four; obtain ⟨xq30, xq31, xq32, xq33⟩ := (BX3.alloc (.cells #[.int .i64 0, .int .i64 0, .int .u32 0, .string ⟨#[]⟩] 26)).four) | (go_at_call 13; (with_reducible refine (c3 _).mono ?_); rintro e w4 ⟨rfl, hb4⟩; have BM4 := (BM3.alloc _).below hb4; have BX4 := (BX3.alloc _).below hb4; have BY4 := (Blk.new _ _).below hb4; obtain ⟨mq40, mq41, mq42, mq43⟩ := (BM4.alloc (.cells #[.int .i64 x1, .int .i64 y1, .int .u32 z1, .string s1] 26)).four; obtain ⟨xq40, xq41, xq42, xq43⟩ := (BX4.alloc (.cells #[.int .i64 x1, .int .i64 y1, .int .u32 z1, .string s1] 26)).four))
  all_goals go_ret
  all_goals have H1 : Below w.heap.size w w1 := ((Below.refl _ _).alloc (Nat.le_refl _) _).trans (hb1.mono (by simp))
  all_goals have H2 : Below w.heap.size w w2 := H1.trans (hb2.mono H1.size)
  all_goals have H3 : Below w.heap.size w w3 := (H2.alloc H2.size _).trans (hb3.mono (by have := H2.size; simp; omega))
  all_goals have H4 : Below w.heap.size w w4 := (H3.alloc H3.size _).trans (hb4.mono (by have := H3.size; simp; omega))
  all_goals exact ⟨rfl, H4.alloc H4.size _⟩
set_option maxRecDepth 100000 in
set_option maxHeartbeats 8000000 in
theorem back_6_4 (k c r a b n y z x1 y1 z1 : Int) (d : ByteArray) (s1 : ByteArray) (q1 : Bool) (w : World) (hd : (d.size : Int) ≤ 70000) (h8 : (k == 8) = false) (h0 : (k == 0) = false)
    (a1 : AnsB 12 #[msgV k c r d, .int .i64 a, .int .i64 b, .int .i64 n] 4 y z d true)
    (a2 : AnsB 13 #[msgV k c r d, .int .i64 a, .int .i64 b] 0 0 0 ⟨#[]⟩ false)
    (a3 : AnsB 13 #[msgV 4 y z d, .int .i64 a, .int .i64 b] x1 y1 z1 s1 q1) :
    Calls Try.prog 9 #[msgV k c r d, .int .i64 a, .int .i64 b, .int .i64 n] w fun e w' => e = .returned (.bool true) ∧ Below w.heap.size w w' := by
  have c1 := fun w => a1 w
  have c2 := fun w => a2 w
  have c3 := fun w => a3 w
  clear a1 a2 a3
  have he := eq26
  go_enter Try.func9, Try.ntmps9
  go_wp2_with (first | (go_at_call 11; (with_reducible refine (awake_any _).mono ?_); rintro e w1 ⟨rfl, hb1⟩; have BM1 := (Blk.new _ _).below hb1; obtain ⟨mq10, mq11, mq12, mq13⟩ := BM1.four) | (go_at_call 12; (with_reducible refine (c1 _).mono ?_); rintro e w2 ⟨rfl, hb2⟩; have BM2 := BM1.below hb2; obtain ⟨mq20, mq21, mq22, mq23⟩ := (BM2.alloc (.cells #[.int .i64 4, .int .i64 y, .int .u32 z, .string d] 26)).four) | (go_at_call 13; (with_reducible refine (c2 _).mono ?_); rintro e w3 ⟨rfl, hb3⟩; have BM3 := (BM2.alloc _).below hb3; have BX3 := (Blk.new _ _).below hb3; obtain ⟨mq30, mq31, mq32, mq33⟩ := (BM3.alloc (.cells #[.int .i64 0, .int .i64 0, .int .u32 0, .string ⟨#[]⟩] 26)).four; obtain ⟨xq30, xq31, xq32, xq33⟩ := (BX3.alloc (.cells #[.int .i64 0, .int .i64 0, .int .u32 0, .string ⟨#[]⟩] 26)).four) | (go_at_call 13; (with_reducible refine (c3 _).mono ?_); rintro e w4 ⟨rfl, hb4⟩; have BM4 := (BM3.alloc _).below hb4; have BX4 := (BX3.alloc _).below hb4; have BY4 := (Blk.new _ _).below hb4; obtain ⟨mq40, mq41, mq42, mq43⟩ := (BM4.alloc (.cells #[.int .i64 x1, .int .i64 y1, .int .u32 z1, .string s1] 26)).four; obtain ⟨xq40, xq41, xq42, xq43⟩ := (BX4.alloc (.cells #[.int .i64 x1, .int .i64 y1, .int .u32 z1, .string s1] 26)).four))
  all_goals go_ret
  all_goals have H1 : Below w.heap.size w w1 := ((Below.refl _ _).alloc (Nat.le_refl _) _).trans (hb1.mono (by simp))
  all_goals have H2 : Below w.heap.size w w2 := H1.trans (hb2.mono H1.size)
  all_goals have H3 : Below w.heap.size w w3 := (H2.alloc H2.size _).trans (hb3.mono (by have := H2.size; simp; omega))
  all_goals have H4 : Below w.heap.size w w4 := (H3.alloc H3.size _).trans (hb4.mono (by have := H3.size; simp; omega))
  all_goals exact ⟨rfl, H4.alloc H4.size _⟩
set_option maxRecDepth 100000 in
set_option maxHeartbeats 8000000 in
theorem back_6_2 (k c r a b n y z x1 y1 z1 : Int) (d : ByteArray) (s1 : ByteArray) (q1 : Bool) (w : World) (hd : (d.size : Int) ≤ 70000) (h8 : (k == 8) = false) (h0 : (k == 0) = false) (hz : 1280 ≤ z) (hz' : z ≤ (if b < 1280 then 1280 else b)) (hz2 : z < 4294967296)
    (a1 : AnsB 12 #[msgV k c r d, .int .i64 a, .int .i64 b, .int .i64 n] 2 y z d true)
    (a2 : AnsB 13 #[msgV k c r d, .int .i64 a, .int .i64 b] 0 0 0 ⟨#[]⟩ false)
    (a3 : AnsB 13 #[msgV 2 y z d, .int .i64 a, .int .i64 b] x1 y1 z1 s1 q1) :
    Calls Try.prog 9 #[msgV k c r d, .int .i64 a, .int .i64 b, .int .i64 n] w fun e w' => e = .returned (.bool true) ∧ Below w.heap.size w w' := by
  have c1 := fun w => a1 w
  have c2 := fun w => a2 w
  have c3 := fun w => a3 w
  clear a1 a2 a3
  have he := eq26
  go_enter Try.func9, Try.ntmps9
  go_wp2_with (first | (go_at_call 11; (with_reducible refine (awake_any _).mono ?_); rintro e w1 ⟨rfl, hb1⟩; have BM1 := (Blk.new _ _).below hb1; obtain ⟨mq10, mq11, mq12, mq13⟩ := BM1.four) | (go_at_call 12; (with_reducible refine (c1 _).mono ?_); rintro e w2 ⟨rfl, hb2⟩; have BM2 := BM1.below hb2; obtain ⟨mq20, mq21, mq22, mq23⟩ := (BM2.alloc (.cells #[.int .i64 2, .int .i64 y, .int .u32 z, .string d] 26)).four) | (go_at_call 13; (with_reducible refine (c2 _).mono ?_); rintro e w3 ⟨rfl, hb3⟩; have BM3 := (BM2.alloc _).below hb3; have BX3 := (Blk.new _ _).below hb3; obtain ⟨mq30, mq31, mq32, mq33⟩ := (BM3.alloc (.cells #[.int .i64 0, .int .i64 0, .int .u32 0, .string ⟨#[]⟩] 26)).four; obtain ⟨xq30, xq31, xq32, xq33⟩ := (BX3.alloc (.cells #[.int .i64 0, .int .i64 0, .int .u32 0, .string ⟨#[]⟩] 26)).four) | (go_at_call 13; (with_reducible refine (c3 _).mono ?_); rintro e w4 ⟨rfl, hb4⟩; have BM4 := (BM3.alloc _).below hb4; have BX4 := (BX3.alloc _).below hb4; have BY4 := (Blk.new _ _).below hb4; obtain ⟨mq40, mq41, mq42, mq43⟩ := (BM4.alloc (.cells #[.int .i64 x1, .int .i64 y1, .int .u32 z1, .string s1] 26)).four; obtain ⟨xq40, xq41, xq42, xq43⟩ := (BX4.alloc (.cells #[.int .i64 x1, .int .i64 y1, .int .u32 z1, .string s1] 26)).four))
  all_goals go_ret
  all_goals have H1 : Below w.heap.size w w1 := ((Below.refl _ _).alloc (Nat.le_refl _) _).trans (hb1.mono (by simp))
  all_goals have H2 : Below w.heap.size w w2 := H1.trans (hb2.mono H1.size)
  all_goals have H3 : Below w.heap.size w w3 := (H2.alloc H2.size _).trans (hb3.mono (by have := H2.size; simp; omega))
  all_goals have H4 : Below w.heap.size w w4 := (H3.alloc H3.size _).trans (hb4.mono (by have := H3.size; simp; omega))
  all_goals exact ⟨rfl, H4.alloc H4.size _⟩
set_option maxRecDepth 100000 in
set_option maxHeartbeats 8000000 in
theorem back_e128 (r a b n : Int) (d : ByteArray) (w : World) (hd : (d.size : Int) ≤ 70000)
    (a1 : AnsB 12 #[msgV 128 0 r d, .int .i64 a, .int .i64 b, .int .i64 n] 0 0 0 ⟨#[]⟩ false)
    (a2 : AnsB 13 #[msgV 128 0 r d, .int .i64 a, .int .i64 b] 8 0 r d true)
    (a4 : AnsB 12 #[msgV 8 0 r d, .int .i64 a, .int .i64 b, .int .i64 n] 128 0 r d true) :
    Calls Try.prog 9 #[msgV 128 0 r d, .int .i64 a, .int .i64 b, .int .i64 n] w fun e w' => e = .returned (.bool true) ∧ Below w.heap.size w w' := by
  have c1 := fun w => a1 w
  have c2 := fun w => a2 w
  have c4 := fun w => a4 w
  clear a1 a2 a4
  have he := eq26
  go_enter Try.func9, Try.ntmps9
  go_wp2_with (first | (go_at_call 11; (with_reducible refine (awake_any _).mono ?_); rintro e w1 ⟨rfl, hb1⟩; have BM1 := (Blk.new _ _).below hb1; obtain ⟨mq10, mq11, mq12, mq13⟩ := BM1.four) | (go_at_call 12; (with_reducible refine (c1 _).mono ?_); rintro e w2 ⟨rfl, hb2⟩; have BM2 := BM1.below hb2; obtain ⟨mq20, mq21, mq22, mq23⟩ := (BM2.alloc (.cells #[.int .i64 0, .int .i64 0, .int .u32 0, .string ⟨#[]⟩] 26)).four) | (go_at_call 13; (with_reducible refine (c2 _).mono ?_); rintro e w3 ⟨rfl, hb3⟩; have BM3 := (BM2.alloc _).below hb3; have BX3 := (Blk.new _ _).below hb3; obtain ⟨mq30, mq31, mq32, mq33⟩ := (BM3.alloc (.cells #[.int .i64 8, .int .i64 0, .int .u32 r, .string d] 26)).four; obtain ⟨xq30, xq31, xq32, xq33⟩ := (BX3.alloc (.cells #[.int .i64 8, .int .i64 0, .int .u32 r, .string d] 26)).four) | (go_at_call 12; (with_reducible refine (c4 _).mono ?_); rintro e w4 ⟨rfl, hb4⟩; have BM4 := (BM3.alloc _).below hb4; have BX4 := (BX3.alloc _).below hb4; have BY4 := (Blk.new _ _).below hb4; obtain ⟨mq40, mq41, mq42, mq43⟩ := (BM4.alloc (.cells #[.int .i64 128, .int .i64 0, .int .u32 r, .string d] 26)).four; obtain ⟨yq40, yq41, yq42, yq43⟩ := (BY4.alloc (.cells #[.int .i64 128, .int .i64 0, .int .u32 r, .string d] 26)).four))
  all_goals go_ret
  all_goals have H1 : Below w.heap.size w w1 := ((Below.refl _ _).alloc (Nat.le_refl _) _).trans (hb1.mono (by simp))
  all_goals have H2 : Below w.heap.size w w2 := H1.trans (hb2.mono H1.size)
  all_goals have H3 : Below w.heap.size w w3 := (H2.alloc H2.size _).trans (hb3.mono (by have := H2.size; simp; omega))
  all_goals have H4 : Below w.heap.size w w4 := (H3.alloc H3.size _).trans (hb4.mono (by have := H3.size; simp; omega))
  all_goals exact ⟨rfl, H4.alloc H4.size _⟩
set_option maxRecDepth 100000 in
set_option maxHeartbeats 8000000 in
theorem back_e129 (r a b n : Int) (d : ByteArray) (w : World) (hd : (d.size : Int) ≤ 70000)
    (a1 : AnsB 12 #[msgV 129 0 r d, .int .i64 a, .int .i64 b, .int .i64 n] 0 0 0 ⟨#[]⟩ false)
    (a2 : AnsB 13 #[msgV 129 0 r d, .int .i64 a, .int .i64 b] 0 0 r d true)
    (a4 : AnsB 12 #[msgV 0 0 r d, .int .i64 a, .int .i64 b, .int .i64 n] 129 0 r d true) :
    Calls Try.prog 9 #[msgV 129 0 r d, .int .i64 a, .int .i64 b, .int .i64 n] w fun e w' => e = .returned (.bool true) ∧ Below w.heap.size w w' := by
  have c1 := fun w => a1 w
  have c2 := fun w => a2 w
  have c4 := fun w => a4 w
  clear a1 a2 a4
  have he := eq26
  go_enter Try.func9, Try.ntmps9
  go_wp2_with (first | (go_at_call 11; (with_reducible refine (awake_any _).mono ?_); rintro e w1 ⟨rfl, hb1⟩; have BM1 := (Blk.new _ _).below hb1; obtain ⟨mq10, mq11, mq12, mq13⟩ := BM1.four) | (go_at_call 12; (with_reducible refine (c1 _).mono ?_); rintro e w2 ⟨rfl, hb2⟩; have BM2 := BM1.below hb2; obtain ⟨mq20, mq21, mq22, mq23⟩ := (BM2.alloc (.cells #[.int .i64 0, .int .i64 0, .int .u32 0, .string ⟨#[]⟩] 26)).four) | (go_at_call 13; (with_reducible refine (c2 _).mono ?_); rintro e w3 ⟨rfl, hb3⟩; have BM3 := (BM2.alloc _).below hb3; have BX3 := (Blk.new _ _).below hb3; obtain ⟨mq30, mq31, mq32, mq33⟩ := (BM3.alloc (.cells #[.int .i64 0, .int .i64 0, .int .u32 r, .string d] 26)).four; obtain ⟨xq30, xq31, xq32, xq33⟩ := (BX3.alloc (.cells #[.int .i64 0, .int .i64 0, .int .u32 r, .string d] 26)).four) | (go_at_call 12; (with_reducible refine (c4 _).mono ?_); rintro e w4 ⟨rfl, hb4⟩; have BM4 := (BM3.alloc _).below hb4; have BX4 := (BX3.alloc _).below hb4; have BY4 := (Blk.new _ _).below hb4; obtain ⟨mq40, mq41, mq42, mq43⟩ := (BM4.alloc (.cells #[.int .i64 129, .int .i64 0, .int .u32 r, .string d] 26)).four; obtain ⟨yq40, yq41, yq42, yq43⟩ := (BY4.alloc (.cells #[.int .i64 129, .int .i64 0, .int .u32 r, .string d] 26)).four))
  all_goals go_ret
  all_goals have H1 : Below w.heap.size w w1 := ((Below.refl _ _).alloc (Nat.le_refl _) _).trans (hb1.mono (by simp))
  all_goals have H2 : Below w.heap.size w w2 := H1.trans (hb2.mono H1.size)
  all_goals have H3 : Below w.heap.size w w3 := (H2.alloc H2.size _).trans (hb3.mono (by have := H2.size; simp; omega))
  all_goals have H4 : Below w.heap.size w w4 := (H3.alloc H3.size _).trans (hb4.mono (by have := H3.size; simp; omega))
  all_goals exact ⟨rfl, H4.alloc H4.size _⟩
set_option maxRecDepth 100000 in
set_option maxHeartbeats 8000000 in
theorem back_4_11 (k c r a b n v t x2 y2 z2 : Int) (d : ByteArray) (s2 : ByteArray) (q2 : Bool) (w : World) (hd : (d.size : Int) ≤ 70000) (hk : k < 128)
    (a1 : AnsB 12 #[msgV k c r d, .int .i64 a, .int .i64 b, .int .i64 n] 0 0 0 ⟨#[]⟩ false)
    (a2 : AnsB 13 #[msgV k c r d, .int .i64 a, .int .i64 b] 11 v t d true)
    (a4 : AnsB 12 #[msgV 11 v t d, .int .i64 a, .int .i64 b, .int .i64 n] x2 y2 z2 s2 q2) :
    Calls Try.prog 9 #[msgV k c r d, .int .i64 a, .int .i64 b, .int .i64 n] w fun e w' => e = .returned (.bool true) ∧ Below w.heap.size w w' := by
  have c1 := fun w => a1 w
  have c2 := fun w => a2 w
  have c4 := fun w => a4 w
  clear a1 a2 a4
  have he := eq26
  go_enter Try.func9, Try.ntmps9
  go_wp2_with (first | (go_at_call 11; (with_reducible refine (awake_any _).mono ?_); rintro e w1 ⟨rfl, hb1⟩; have BM1 := (Blk.new _ _).below hb1; obtain ⟨mq10, mq11, mq12, mq13⟩ := BM1.four) | (go_at_call 12; (with_reducible refine (c1 _).mono ?_); rintro e w2 ⟨rfl, hb2⟩; have BM2 := BM1.below hb2; obtain ⟨mq20, mq21, mq22, mq23⟩ := (BM2.alloc (.cells #[.int .i64 0, .int .i64 0, .int .u32 0, .string ⟨#[]⟩] 26)).four) | (go_at_call 13; (with_reducible refine (c2 _).mono ?_); rintro e w3 ⟨rfl, hb3⟩; have BM3 := (BM2.alloc _).below hb3; have BX3 := (Blk.new _ _).below hb3; obtain ⟨mq30, mq31, mq32, mq33⟩ := (BM3.alloc (.cells #[.int .i64 11, .int .i64 v, .int .u32 t, .string d] 26)).four; obtain ⟨xq30, xq31, xq32, xq33⟩ := (BX3.alloc (.cells #[.int .i64 11, .int .i64 v, .int .u32 t, .string d] 26)).four) | (go_at_call 12; (with_reducible refine (c4 _).mono ?_); rintro e w4 ⟨rfl, hb4⟩; have BM4 := (BM3.alloc _).below hb4; have BX4 := (BX3.alloc _).below hb4; have BY4 := (Blk.new _ _).below hb4; obtain ⟨mq40, mq41, mq42, mq43⟩ := (BM4.alloc (.cells #[.int .i64 x2, .int .i64 y2, .int .u32 z2, .string s2] 26)).four; obtain ⟨yq40, yq41, yq42, yq43⟩ := (BY4.alloc (.cells #[.int .i64 x2, .int .i64 y2, .int .u32 z2, .string s2] 26)).four))
  all_goals go_ret
  all_goals have H1 : Below w.heap.size w w1 := ((Below.refl _ _).alloc (Nat.le_refl _) _).trans (hb1.mono (by simp))
  all_goals have H2 : Below w.heap.size w w2 := H1.trans (hb2.mono H1.size)
  all_goals have H3 : Below w.heap.size w w3 := (H2.alloc H2.size _).trans (hb3.mono (by have := H2.size; simp; omega))
  all_goals have H4 : Below w.heap.size w w4 := (H3.alloc H3.size _).trans (hb4.mono (by have := H3.size; simp; omega))
  all_goals exact ⟨rfl, H4.alloc H4.size _⟩
set_option maxRecDepth 100000 in
set_option maxHeartbeats 8000000 in
theorem back_4_12 (k c r a b n v t x2 y2 z2 : Int) (d : ByteArray) (s2 : ByteArray) (q2 : Bool) (w : World) (hd : (d.size : Int) ≤ 70000) (hk : k < 128)
    (a1 : AnsB 12 #[msgV k c r d, .int .i64 a, .int .i64 b, .int .i64 n] 0 0 0 ⟨#[]⟩ false)
    (a2 : AnsB 13 #[msgV k c r d, .int .i64 a, .int .i64 b] 12 v t d true)
    (a4 : AnsB 12 #[msgV 12 v t d, .int .i64 a, .int .i64 b, .int .i64 n] x2 y2 z2 s2 q2) :
    Calls Try.prog 9 #[msgV k c r d, .int .i64 a, .int .i64 b, .int .i64 n] w fun e w' => e = .returned (.bool true) ∧ Below w.heap.size w w' := by
  have c1 := fun w => a1 w
  have c2 := fun w => a2 w
  have c4 := fun w => a4 w
  clear a1 a2 a4
  have he := eq26
  go_enter Try.func9, Try.ntmps9
  go_wp2_with (first | (go_at_call 11; (with_reducible refine (awake_any _).mono ?_); rintro e w1 ⟨rfl, hb1⟩; have BM1 := (Blk.new _ _).below hb1; obtain ⟨mq10, mq11, mq12, mq13⟩ := BM1.four) | (go_at_call 12; (with_reducible refine (c1 _).mono ?_); rintro e w2 ⟨rfl, hb2⟩; have BM2 := BM1.below hb2; obtain ⟨mq20, mq21, mq22, mq23⟩ := (BM2.alloc (.cells #[.int .i64 0, .int .i64 0, .int .u32 0, .string ⟨#[]⟩] 26)).four) | (go_at_call 13; (with_reducible refine (c2 _).mono ?_); rintro e w3 ⟨rfl, hb3⟩; have BM3 := (BM2.alloc _).below hb3; have BX3 := (Blk.new _ _).below hb3; obtain ⟨mq30, mq31, mq32, mq33⟩ := (BM3.alloc (.cells #[.int .i64 12, .int .i64 v, .int .u32 t, .string d] 26)).four; obtain ⟨xq30, xq31, xq32, xq33⟩ := (BX3.alloc (.cells #[.int .i64 12, .int .i64 v, .int .u32 t, .string d] 26)).four) | (go_at_call 12; (with_reducible refine (c4 _).mono ?_); rintro e w4 ⟨rfl, hb4⟩; have BM4 := (BM3.alloc _).below hb4; have BX4 := (BX3.alloc _).below hb4; have BY4 := (Blk.new _ _).below hb4; obtain ⟨mq40, mq41, mq42, mq43⟩ := (BM4.alloc (.cells #[.int .i64 x2, .int .i64 y2, .int .u32 z2, .string s2] 26)).four; obtain ⟨yq40, yq41, yq42, yq43⟩ := (BY4.alloc (.cells #[.int .i64 x2, .int .i64 y2, .int .u32 z2, .string s2] 26)).four))
  all_goals go_ret
  all_goals have H1 : Below w.heap.size w w1 := ((Below.refl _ _).alloc (Nat.le_refl _) _).trans (hb1.mono (by simp))
  all_goals have H2 : Below w.heap.size w w2 := H1.trans (hb2.mono H1.size)
  all_goals have H3 : Below w.heap.size w w3 := (H2.alloc H2.size _).trans (hb3.mono (by have := H2.size; simp; omega))
  all_goals have H4 : Below w.heap.size w w4 := (H3.alloc H3.size _).trans (hb4.mono (by have := H3.size; simp; omega))
  all_goals exact ⟨rfl, H4.alloc H4.size _⟩
set_option maxRecDepth 100000 in
set_option maxHeartbeats 8000000 in
theorem back_4_3 (k c r a b n v t x2 y2 z2 : Int) (d : ByteArray) (s2 : ByteArray) (q2 : Bool) (w : World) (hd : (d.size : Int) ≤ 70000) (hk : k < 128) (hv : (v == 4) = false)
    (a1 : AnsB 12 #[msgV k c r d, .int .i64 a, .int .i64 b, .int .i64 n] 0 0 0 ⟨#[]⟩ false)
    (a2 : AnsB 13 #[msgV k c r d, .int .i64 a, .int .i64 b] 3 v t d true)
    (a4 : AnsB 12 #[msgV 3 v t d, .int .i64 a, .int .i64 b, .int .i64 n] x2 y2 z2 s2 q2) :
    Calls Try.prog 9 #[msgV k c r d, .int .i64 a, .int .i64 b, .int .i64 n] w fun e w' => e = .returned (.bool true) ∧ Below w.heap.size w w' := by
  have c1 := fun w => a1 w
  have c2 := fun w => a2 w
  have c4 := fun w => a4 w
  clear a1 a2 a4
  have he := eq26
  go_enter Try.func9, Try.ntmps9
  go_wp2_with (first | (go_at_call 11; (with_reducible refine (awake_any _).mono ?_); rintro e w1 ⟨rfl, hb1⟩; have BM1 := (Blk.new _ _).below hb1; obtain ⟨mq10, mq11, mq12, mq13⟩ := BM1.four) | (go_at_call 12; (with_reducible refine (c1 _).mono ?_); rintro e w2 ⟨rfl, hb2⟩; have BM2 := BM1.below hb2; obtain ⟨mq20, mq21, mq22, mq23⟩ := (BM2.alloc (.cells #[.int .i64 0, .int .i64 0, .int .u32 0, .string ⟨#[]⟩] 26)).four) | (go_at_call 13; (with_reducible refine (c2 _).mono ?_); rintro e w3 ⟨rfl, hb3⟩; have BM3 := (BM2.alloc _).below hb3; have BX3 := (Blk.new _ _).below hb3; obtain ⟨mq30, mq31, mq32, mq33⟩ := (BM3.alloc (.cells #[.int .i64 3, .int .i64 v, .int .u32 t, .string d] 26)).four; obtain ⟨xq30, xq31, xq32, xq33⟩ := (BX3.alloc (.cells #[.int .i64 3, .int .i64 v, .int .u32 t, .string d] 26)).four) | (go_at_call 12; (with_reducible refine (c4 _).mono ?_); rintro e w4 ⟨rfl, hb4⟩; have BM4 := (BM3.alloc _).below hb4; have BX4 := (BX3.alloc _).below hb4; have BY4 := (Blk.new _ _).below hb4; obtain ⟨mq40, mq41, mq42, mq43⟩ := (BM4.alloc (.cells #[.int .i64 x2, .int .i64 y2, .int .u32 z2, .string s2] 26)).four; obtain ⟨yq40, yq41, yq42, yq43⟩ := (BY4.alloc (.cells #[.int .i64 x2, .int .i64 y2, .int .u32 z2, .string s2] 26)).four))
  all_goals go_ret
  all_goals have H1 : Below w.heap.size w w1 := ((Below.refl _ _).alloc (Nat.le_refl _) _).trans (hb1.mono (by simp))
  all_goals have H2 : Below w.heap.size w w2 := H1.trans (hb2.mono H1.size)
  all_goals have H3 : Below w.heap.size w w3 := (H2.alloc H2.size _).trans (hb3.mono (by have := H2.size; simp; omega))
  all_goals have H4 : Below w.heap.size w w4 := (H3.alloc H3.size _).trans (hb4.mono (by have := H3.size; simp; omega))
  all_goals exact ⟨rfl, H4.alloc H4.size _⟩
set_option maxRecDepth 100000 in
set_option maxHeartbeats 8000000 in
theorem back_4_34 (k c r a b n t x2 y2 z2 : Int) (d : ByteArray) (s2 : ByteArray) (q2 : Bool) (w : World) (hd : (d.size : Int) ≤ 70000) (hk : k < 128) (ht : 68 ≤ t) (ht' : t ≤ a) (ht2 : t < 4294967296)
    (a1 : AnsB 12 #[msgV k c r d, .int .i64 a, .int .i64 b, .int .i64 n] 0 0 0 ⟨#[]⟩ false)
    (a2 : AnsB 13 #[msgV k c r d, .int .i64 a, .int .i64 b] 3 4 t d true)
    (a4 : AnsB 12 #[msgV 3 4 t d, .int .i64 a, .int .i64 b, .int .i64 n] x2 y2 z2 s2 q2) :
    Calls Try.prog 9 #[msgV k c r d, .int .i64 a, .int .i64 b, .int .i64 n] w fun e w' => e = .returned (.bool true) ∧ Below w.heap.size w w' := by
  have c1 := fun w => a1 w
  have c2 := fun w => a2 w
  have c4 := fun w => a4 w
  clear a1 a2 a4
  have he := eq26
  go_enter Try.func9, Try.ntmps9
  go_wp2_with (first | (go_at_call 11; (with_reducible refine (awake_any _).mono ?_); rintro e w1 ⟨rfl, hb1⟩; have BM1 := (Blk.new _ _).below hb1; obtain ⟨mq10, mq11, mq12, mq13⟩ := BM1.four) | (go_at_call 12; (with_reducible refine (c1 _).mono ?_); rintro e w2 ⟨rfl, hb2⟩; have BM2 := BM1.below hb2; obtain ⟨mq20, mq21, mq22, mq23⟩ := (BM2.alloc (.cells #[.int .i64 0, .int .i64 0, .int .u32 0, .string ⟨#[]⟩] 26)).four) | (go_at_call 13; (with_reducible refine (c2 _).mono ?_); rintro e w3 ⟨rfl, hb3⟩; have BM3 := (BM2.alloc _).below hb3; have BX3 := (Blk.new _ _).below hb3; obtain ⟨mq30, mq31, mq32, mq33⟩ := (BM3.alloc (.cells #[.int .i64 3, .int .i64 4, .int .u32 t, .string d] 26)).four; obtain ⟨xq30, xq31, xq32, xq33⟩ := (BX3.alloc (.cells #[.int .i64 3, .int .i64 4, .int .u32 t, .string d] 26)).four) | (go_at_call 12; (with_reducible refine (c4 _).mono ?_); rintro e w4 ⟨rfl, hb4⟩; have BM4 := (BM3.alloc _).below hb4; have BX4 := (BX3.alloc _).below hb4; have BY4 := (Blk.new _ _).below hb4; obtain ⟨mq40, mq41, mq42, mq43⟩ := (BM4.alloc (.cells #[.int .i64 x2, .int .i64 y2, .int .u32 z2, .string s2] 26)).four; obtain ⟨yq40, yq41, yq42, yq43⟩ := (BY4.alloc (.cells #[.int .i64 x2, .int .i64 y2, .int .u32 z2, .string s2] 26)).four))
  all_goals go_ret
  all_goals have H1 : Below w.heap.size w w1 := ((Below.refl _ _).alloc (Nat.le_refl _) _).trans (hb1.mono (by simp))
  all_goals have H2 : Below w.heap.size w w2 := H1.trans (hb2.mono H1.size)
  all_goals have H3 : Below w.heap.size w w3 := (H2.alloc H2.size _).trans (hb3.mono (by have := H2.size; simp; omega))
  all_goals have H4 : Below w.heap.size w w4 := (H3.alloc H3.size _).trans (hb4.mono (by have := H3.size; simp; omega))
  all_goals exact ⟨rfl, H4.alloc H4.size _⟩
set_option maxRecDepth 100000 in
set_option maxHeartbeats 8000000 in
theorem back_both (c r a b n y z v t x1 y1 z1 x2 y2 z2 : Int) (d : ByteArray) (s1 : ByteArray) (q1 : Bool) (s2 : ByteArray) (q2 : Bool) (w : World) (hd : (d.size : Int) ≤ 70000)
    (a1 : AnsB 12 #[msgV 3 c r d, .int .i64 a, .int .i64 b, .int .i64 n] 1 y z d true)
    (a2 : AnsB 13 #[msgV 3 c r d, .int .i64 a, .int .i64 b] 11 v t d true)
    (a3 : AnsB 13 #[msgV 1 y z d, .int .i64 a, .int .i64 b] x1 y1 z1 s1 q1)
    (a4 : AnsB 12 #[msgV 11 v t d, .int .i64 a, .int .i64 b, .int .i64 n] x2 y2 z2 s2 q2) :
    Calls Try.prog 9 #[msgV 3 c r d, .int .i64 a, .int .i64 b, .int .i64 n] w fun e w' => e = .returned (.bool true) ∧ Below w.heap.size w w' := by
  have c1 := fun w => a1 w
  have c2 := fun w => a2 w
  have c3 := fun w => a3 w
  have c4 := fun w => a4 w
  clear a1 a2 a3 a4
  have he := eq26
  go_enter Try.func9, Try.ntmps9
  go_wp2_with (first | (go_at_call 11; (with_reducible refine (awake_any _).mono ?_); rintro e w1 ⟨rfl, hb1⟩; have BM1 := (Blk.new _ _).below hb1; obtain ⟨mq10, mq11, mq12, mq13⟩ := BM1.four) | (go_at_call 12; (with_reducible refine (c1 _).mono ?_); rintro e w2 ⟨rfl, hb2⟩; have BM2 := BM1.below hb2; obtain ⟨mq20, mq21, mq22, mq23⟩ := (BM2.alloc (.cells #[.int .i64 1, .int .i64 y, .int .u32 z, .string d] 26)).four) | (go_at_call 13; (with_reducible refine (c2 _).mono ?_); rintro e w3 ⟨rfl, hb3⟩; have BM3 := (BM2.alloc _).below hb3; have BX3 := (Blk.new _ _).below hb3; obtain ⟨mq30, mq31, mq32, mq33⟩ := (BM3.alloc (.cells #[.int .i64 11, .int .i64 v, .int .u32 t, .string d] 26)).four; obtain ⟨xq30, xq31, xq32, xq33⟩ := (BX3.alloc (.cells #[.int .i64 11, .int .i64 v, .int .u32 t, .string d] 26)).four) | (go_at_call 13; (with_reducible refine (c3 _).mono ?_); rintro e w4 ⟨rfl, hb4⟩; have BM4 := (BM3.alloc _).below hb4; have BX4 := (BX3.alloc _).below hb4; have BY4 := (Blk.new _ _).below hb4; obtain ⟨mq40, mq41, mq42, mq43⟩ := (BM4.alloc (.cells #[.int .i64 x1, .int .i64 y1, .int .u32 z1, .string s1] 26)).four; obtain ⟨xq40, xq41, xq42, xq43⟩ := (BX4.alloc (.cells #[.int .i64 x1, .int .i64 y1, .int .u32 z1, .string s1] 26)).four; obtain ⟨yq40, yq41, yq42, yq43⟩ := (BY4.alloc (.cells #[.int .i64 x1, .int .i64 y1, .int .u32 z1, .string s1] 26)).four) | (go_at_call 12; (with_reducible refine (c4 _).mono ?_); rintro e w5 ⟨rfl, hb5⟩; have BM5 := (BM4.alloc _).below hb5; have BX5 := (BX4.alloc _).below hb5; have BY5 := (BY4.alloc _).below hb5; have BB5 := (Blk.new _ _).below hb5; obtain ⟨mq50, mq51, mq52, mq53⟩ := (BM5.alloc (.cells #[.int .i64 x2, .int .i64 y2, .int .u32 z2, .string s2] 26)).four; obtain ⟨yq50, yq51, yq52, yq53⟩ := (BY5.alloc (.cells #[.int .i64 x2, .int .i64 y2, .int .u32 z2, .string s2] 26)).four))
  all_goals go_ret
  all_goals have H1 : Below w.heap.size w w1 := ((Below.refl _ _).alloc (Nat.le_refl _) _).trans (hb1.mono (by simp))
  all_goals have H2 : Below w.heap.size w w2 := H1.trans (hb2.mono H1.size)
  all_goals have H3 : Below w.heap.size w w3 := (H2.alloc H2.size _).trans (hb3.mono (by have := H2.size; simp; omega))
  all_goals have H4 : Below w.heap.size w w4 := (H3.alloc H3.size _).trans (hb4.mono (by have := H3.size; simp; omega))
  all_goals have H5 : Below w.heap.size w w5 := (H4.alloc H4.size _).trans (hb5.mono (by have := H4.size; simp; omega))
  all_goals exact ⟨rfl, H5.alloc H5.size _⟩
end Go.Proofs.Ytcppckpkiloilaa
