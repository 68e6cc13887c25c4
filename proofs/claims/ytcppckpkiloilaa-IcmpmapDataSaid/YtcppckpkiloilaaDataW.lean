/-
  The walk of the law IcmpmapData: it returns true, and what was there stays. Condition: the arguments fit their kind.
-/
import Derived.Test.YtcppckpkiloilaaI
import Derived.OpenShut
namespace Go.Proofs.Ytcppckpkiloilaa
open Go.RowKit
set_option linter.unusedSimpArgs false

def Ans (f : Nat) (args : Array Value) (x y z : Int) (s : ByteArray) (q : Bool) : Prop :=
  ∀ w : World, Calls Try.prog f args w fun e w' => e = .returned (.tuple #[.agg #[.int .i64 x, .int .i64 y, .int .u32 z, .string s], .bool q]) ∧ Below w.heap.size w w'
set_option maxRecDepth 100000 in
set_option maxHeartbeats 2000000 in
theorem data_big (k c r r' a b n : Int) (d s : ByteArray) (w : World) (h : ¬ (d.size : Int) ≤ 1000) :
    Calls Try.prog 4 #[msgV k c r d, .int .u32 r', .string s, .int .i64 a, .int .i64 b, .int .i64 n] w fun e w' => e = .returned (.bool true) ∧ Below w.heap.size w w' := by
  have h' : (1000 : Int) < (d.size : Int) := by omega
  clear h
  go_enter Try.func4, Try.ntmps4
  go_wp2_with (first | (go_at_call 11; (with_reducible refine (awake_any _).mono ?_); rintro e w1 ⟨rfl, hb1⟩; have BM1 := (Blk.new _ _).below hb1; obtain ⟨m0, m1, m2, m3⟩ := BM1.four))
  go_ret
  exact ⟨rfl, ((Below.refl _ _).alloc (Nat.le_refl _) _).trans (hb1.mono (by simp))⟩
set_option maxRecDepth 100000 in
set_option maxHeartbeats 2000000 in
theorem data_big' (k c r r' a b n : Int) (d s : ByteArray) (w : World) (h0 : (d.size : Int) ≤ 1000) (h : ¬ (s.size : Int) ≤ 1000) :
    Calls Try.prog 4 #[msgV k c r d, .int .u32 r', .string s, .int .i64 a, .int .i64 b, .int .i64 n] w fun e w' => e = .returned (.bool true) ∧ Below w.heap.size w w' := by
  have h' : (1000 : Int) < (s.size : Int) := by omega
  clear h
  go_enter Try.func4, Try.ntmps4
  go_wp2_with (first | (go_at_call 11; (with_reducible refine (awake_any _).mono ?_); rintro e w1 ⟨rfl, hb1⟩; have BM1 := (Blk.new _ _).below hb1; obtain ⟨m0, m1, m2, m3⟩ := BM1.four))
  go_ret
  exact ⟨rfl, ((Below.refl _ _).alloc (Nat.le_refl _) _).trans (hb1.mono (by simp))⟩
set_option maxRecDepth 100000 in
set_option maxHeartbeats 8000000 in
theorem data_12 (c r r' a b n x y z u v t t' z' x' y' : Int) (q q' : Bool) (d s s1 s2 : ByteArray) (w : World) (hd : (d.size : Int) ≤ 1000) (hs : (s.size : Int) ≤ 1000)
    (a1 : Ans 12 #[msgV 12 c r d, .int .i64 a, .int .i64 b, .int .i64 n] x y z s1 q) (a2 : Ans 12 #[msgV 12 c r' s, .int .i64 a, .int .i64 b, .int .i64 n] x' y' z' s2 q') (a3 : Ans 13 #[msgV 12 c r d, .int .i64 a, .int .i64 b] u v t ⟨#[]⟩ false) (a4 : Ans 13 #[msgV 12 c r' s, .int .i64 a, .int .i64 b] u v t' ⟨#[]⟩ false) :
    Calls Try.prog 4 #[msgV 12 c r d, .int .u32 r', .string s, .int .i64 a, .int .i64 b, .int .i64 n] w fun e w' => e = .returned (.bool true) ∧ Below w.heap.size w w' := by
  have c1 := fun w => a1 w
  have c2 := fun w => a2 w
  have c3 := fun w => a3 w
  have c4 := fun w => a4 w
  clear a1 a2 a3 a4
  go_enter Try.func4, Try.ntmps4
  go_wp2_with (first | (go_at_call 11; (with_reducible refine (awake_any _).mono ?_); rintro e w1 ⟨rfl, hb1⟩; have BM1 := (Blk.new _ _).below hb1; obtain ⟨mb10, mb11, mb12, mb13⟩ := BM1.four; obtain ⟨mq10, mq11, mq12, mq13⟩ := (BM1.alloc (.cells #[.int .i64 12, .int .i64 c, .int .u32 r', .string s] 26)).four) | (go_at_call 12; (with_reducible refine (c1 _).mono ?_); rintro e w2 ⟨rfl, hb2⟩; have BM2 := (BM1.alloc _).below hb2; have BN2 := (Blk.new _ _).below hb2; obtain ⟨nq20, nq21, nq22, nq23⟩ := (BN2.alloc (.cells #[.int .i64 x, .int .i64 y, .int .u32 z, .string s1] 26)).four) | (go_at_call 12; (with_reducible refine (c2 _).mono ?_); rintro e w3 ⟨rfl, hb3⟩; have BM3 := (BM2.alloc _).below hb3; have BN3 := (BN2.alloc _).below hb3; have BA3 := (Blk.new _ _).below hb3; obtain ⟨mq30, mq31, mq32, mq33⟩ := (BM3.alloc (.cells #[.int .i64 x', .int .i64 y', .int .u32 z', .string s2] 26)).four; obtain ⟨aq30, aq31, aq32, aq33⟩ := (BA3.alloc (.cells #[.int .i64 x', .int .i64 y', .int .u32 z', .string s2] 26)).four) | (go_at_call 13; (with_reducible refine (c3 _).mono ?_); rintro e w4 ⟨rfl, hb4⟩; have BM4 := (BM3.alloc _).below hb4; have BN4 := (BN3.alloc _).below hb4; have BA4 := (BA3.alloc _).below hb4; have BC4 := (Blk.new _ _).below hb4; obtain ⟨nq40, nq41, nq42, nq43⟩ := (BN4.alloc (.cells #[.int .i64 u, .int .i64 v, .int .u32 t, .string ⟨#[]⟩] 26)).four) | (go_at_call 13; (with_reducible refine (c4 _).mono ?_); rintro e w5 ⟨rfl, hb5⟩; have BM5 := (BM4.alloc _).below hb5; have BN5 := (BN4.alloc _).below hb5; have BA5 := (BA4.alloc _).below hb5; have BC5 := (BC4.alloc _).below hb5; have BX5 := (Blk.new _ _).below hb5; obtain ⟨mq50, mq51, mq52, mq53⟩ := (BM5.alloc (.cells #[.int .i64 u, .int .i64 v, .int .u32 t', .string ⟨#[]⟩] 26)).four; obtain ⟨xq50, xq51, xq52, xq53⟩ := (BX5.alloc (.cells #[.int .i64 u, .int .i64 v, .int .u32 t', .string ⟨#[]⟩] 26)).four))
  go_ret
  have H1 : Below w.heap.size w w1 := ((Below.refl _ _).alloc (Nat.le_refl _) _).trans (hb1.mono (by simp))
  have H2 : Below w.heap.size w w2 := (H1.alloc H1.size _).trans (hb2.mono (by have := H1.size; simp; omega))
  have H3 : Below w.heap.size w w3 := (H2.alloc H2.size _).trans (hb3.mono (by have := H2.size; simp; omega))
  have H4 : Below w.heap.size w w4 := (H3.alloc H3.size _).trans (hb4.mono (by have := H3.size; simp; omega))
  have H5 : Below w.heap.size w w5 := (H4.alloc H4.size _).trans (hb5.mono (by have := H4.size; simp; omega))
  exact ⟨rfl, H5.alloc H5.size _⟩
set_option maxRecDepth 100000 in
set_option maxHeartbeats 8000000 in
theorem data_8_true (c r r' a b n x y z u v t t' z' : Int) (d s : ByteArray) (w : World) (hd : (d.size : Int) ≤ 1000) (hs : (s.size : Int) ≤ 1000)
    (a1 : Ans 12 #[msgV 8 c r d, .int .i64 a, .int .i64 b, .int .i64 n] x y z d true) (a2 : Ans 12 #[msgV 8 c r' s, .int .i64 a, .int .i64 b, .int .i64 n] x y z' s true) (a3 : Ans 13 #[msgV 8 c r d, .int .i64 a, .int .i64 b] u v t ⟨#[]⟩ false) (a4 : Ans 13 #[msgV 8 c r' s, .int .i64 a, .int .i64 b] u v t' ⟨#[]⟩ false) :
    Calls Try.prog 4 #[msgV 8 c r d, .int .u32 r', .string s, .int .i64 a, .int .i64 b, .int .i64 n] w fun e w' => e = .returned (.bool true) ∧ Below w.heap.size w w' := by
  have c1 := fun w => a1 w
  have c2 := fun w => a2 w
  have c3 := fun w => a3 w
  have c4 := fun w => a4 w
  clear a1 a2 a3 a4
  go_enter Try.func4, Try.ntmps4
  go_wp2_with (first | (go_at_call 11; (with_reducible refine (awake_any _).mono ?_); rintro e w1 ⟨rfl, hb1⟩; have BM1 := (Blk.new _ _).below hb1; obtain ⟨mb10, mb11, mb12, mb13⟩ := BM1.four; obtain ⟨mq10, mq11, mq12, mq13⟩ := (BM1.alloc (.cells #[.int .i64 8, .int .i64 c, .int .u32 r', .string s] 26)).four) | (go_at_call 12; (with_reducible refine (c1 _).mono ?_); rintro e w2 ⟨rfl, hb2⟩; have BM2 := (BM1.alloc _).below hb2; have BN2 := (Blk.new _ _).below hb2; obtain ⟨nq20, nq21, nq22, nq23⟩ := (BN2.alloc (.cells #[.int .i64 x, .int .i64 y, .int .u32 z, .string d] 26)).four) | (go_at_call 12; (with_reducible refine (c2 _).mono ?_); rintro e w3 ⟨rfl, hb3⟩; have BM3 := (BM2.alloc _).below hb3; have BN3 := (BN2.alloc _).below hb3; have BA3 := (Blk.new _ _).below hb3; obtain ⟨mq30, mq31, mq32, mq33⟩ := (BM3.alloc (.cells #[.int .i64 x, .int .i64 y, .int .u32 z', .string s] 26)).four; obtain ⟨aq30, aq31, aq32, aq33⟩ := (BA3.alloc (.cells #[.int .i64 x, .int .i64 y, .int .u32 z', .string s] 26)).four) | (go_at_call 13; (with_reducible refine (c3 _).mono ?_); rintro e w4 ⟨rfl, hb4⟩; have BM4 := (BM3.alloc _).below hb4; have BN4 := (BN3.alloc _).below hb4; have BA4 := (BA3.alloc _).below hb4; have BC4 := (Blk.new _ _).below hb4; obtain ⟨nq40, nq41, nq42, nq43⟩ := (BN4.alloc (.cells #[.int .i64 u, .int .i64 v, .int .u32 t, .string ⟨#[]⟩] 26)).four) | (go_at_call 13; (with_reducible refine (c4 _).mono ?_); rintro e w5 ⟨rfl, hb5⟩; have BM5 := (BM4.alloc _).below hb5; have BN5 := (BN4.alloc _).below hb5; have BA5 := (BA4.alloc _).below hb5; have BC5 := (BC4.alloc _).below hb5; have BX5 := (Blk.new _ _).below hb5; obtain ⟨mq50, mq51, mq52, mq53⟩ := (BM5.alloc (.cells #[.int .i64 u, .int .i64 v, .int .u32 t', .string ⟨#[]⟩] 26)).four; obtain ⟨xq50, xq51, xq52, xq53⟩ := (BX5.alloc (.cells #[.int .i64 u, .int .i64 v, .int .u32 t', .string ⟨#[]⟩] 26)).four))
  go_ret
  have H1 : Below w.heap.size w w1 := ((Below.refl _ _).alloc (Nat.le_refl _) _).trans (hb1.mono (by simp))
  have H2 : Below w.heap.size w w2 := (H1.alloc H1.size _).trans (hb2.mono (by have := H1.size; simp; omega))
  have H3 : Below w.heap.size w w3 := (H2.alloc H2.size _).trans (hb3.mono (by have := H2.size; simp; omega))
  have H4 : Below w.heap.size w w4 := (H3.alloc H3.size _).trans (hb4.mono (by have := H3.size; simp; omega))
  have H5 : Below w.heap.size w w5 := (H4.alloc H4.size _).trans (hb5.mono (by have := H4.size; simp; omega))
  exact ⟨rfl, H5.alloc H5.size _⟩
set_option maxRecDepth 100000 in
set_option maxHeartbeats 8000000 in
theorem data_0_true (c r r' a b n x y z u v t t' z' : Int) (d s : ByteArray) (w : World) (hd : (d.size : Int) ≤ 1000) (hs : (s.size : Int) ≤ 1000)
    (a1 : Ans 12 #[msgV 0 c r d, .int .i64 a, .int .i64 b, .int .i64 n] x y z d true) (a2 : Ans 12 #[msgV 0 c r' s, .int .i64 a, .int .i64 b, .int .i64 n] x y z' s true) (a3 : Ans 13 #[msgV 0 c r d, .int .i64 a, .int .i64 b] u v t ⟨#[]⟩ false) (a4 : Ans 13 #[msgV 0 c r' s, .int .i64 a, .int .i64 b] u v t' ⟨#[]⟩ false) :
    Calls Try.prog 4 #[msgV 0 c r d, .int .u32 r', .string s, .int .i64 a, .int .i64 b, .int .i64 n] w fun e w' => e = .returned (.bool true) ∧ Below w.heap.size w w' := by
  have c1 := fun w => a1 w
  have c2 := fun w => a2 w
  have c3 := fun w => a3 w
  have c4 := fun w => a4 w
  clear a1 a2 a3 a4
  go_enter Try.func4, Try.ntmps4
  go_wp2_with (first | (go_at_call 11; (with_reducible refine (awake_any _).mono ?_); rintro e w1 ⟨rfl, hb1⟩; have BM1 := (Blk.new _ _).below hb1; obtain ⟨mb10, mb11, mb12, mb13⟩ := BM1.four; obtain ⟨mq10, mq11, mq12, mq13⟩ := (BM1.alloc (.cells #[.int .i64 0, .int .i64 c, .int .u32 r', .string s] 26)).four) | (go_at_call 12; (with_reducible refine (c1 _).mono ?_); rintro e w2 ⟨rfl, hb2⟩; have BM2 := (BM1.alloc _).below hb2; have BN2 := (Blk.new _ _).below hb2; obtain ⟨nq20, nq21, nq22, nq23⟩ := (BN2.alloc (.cells #[.int .i64 x, .int .i64 y, .int .u32 z, .string d] 26)).four) | (go_at_call 12; (with_reducible refine (c2 _).mono ?_); rintro e w3 ⟨rfl, hb3⟩; have BM3 := (BM2.alloc _).below hb3; have BN3 := (BN2.alloc _).below hb3; have BA3 := (Blk.new _ _).below hb3; obtain ⟨mq30, mq31, mq32, mq33⟩ := (BM3.alloc (.cells #[.int .i64 x, .int .i64 y, .int .u32 z', .string s] 26)).four; obtain ⟨aq30, aq31, aq32, aq33⟩ := (BA3.alloc (.cells #[.int .i64 x, .int .i64 y, .int .u32 z', .string s] 26)).four) | (go_at_call 13; (with_reducible refine (c3 _).mono ?_); rintro e w4 ⟨rfl, hb4⟩; have BM4 := (BM3.alloc _).below hb4; have BN4 := (BN3.alloc _).below hb4; have BA4 := (BA3.alloc _).below hb4; have BC4 := (Blk.new _ _).below hb4; obtain ⟨nq40, nq41, nq42, nq43⟩ := (BN4.alloc (.cells #[.int .i64 u, .int .i64 v, .int .u32 t, .string ⟨#[]⟩] 26)).four) | (go_at_call 13; (with_reducible refine (c4 _).mono ?_); rintro e w5 ⟨rfl, hb5⟩; have BM5 := (BM4.alloc _).below hb5; have BN5 := (BN4.alloc _).below hb5; have BA5 := (BA4.alloc _).below hb5; have BC5 := (BC4.alloc _).below hb5; have BX5 := (Blk.new _ _).below hb5; obtain ⟨mq50, mq51, mq52, mq53⟩ := (BM5.alloc (.cells #[.int .i64 u, .int .i64 v, .int .u32 t', .string ⟨#[]⟩] 26)).four; obtain ⟨xq50, xq51, xq52, xq53⟩ := (BX5.alloc (.cells #[.int .i64 u, .int .i64 v, .int .u32 t', .string ⟨#[]⟩] 26)).four))
  go_ret
  have H1 : Below w.heap.size w w1 := ((Below.refl _ _).alloc (Nat.le_refl _) _).trans (hb1.mono (by simp))
  have H2 : Below w.heap.size w w2 := (H1.alloc H1.size _).trans (hb2.mono (by have := H1.size; simp; omega))
  have H3 : Below w.heap.size w w3 := (H2.alloc H2.size _).trans (hb3.mono (by have := H2.size; simp; omega))
  have H4 : Below w.heap.size w w4 := (H3.alloc H3.size _).trans (hb4.mono (by have := H3.size; simp; omega))
  have H5 : Below w.heap.size w w5 := (H4.alloc H4.size _).trans (hb5.mono (by have := H4.size; simp; omega))
  exact ⟨rfl, H5.alloc H5.size _⟩
set_option maxRecDepth 100000 in
set_option maxHeartbeats 8000000 in
theorem data_34_true (r r' a b n x y z u v t t' z' : Int) (d s : ByteArray) (w : World) (hd : (d.size : Int) ≤ 1000) (hs : (s.size : Int) ≤ 1000)
    (a1 : Ans 12 #[msgV 3 4 r d, .int .i64 a, .int .i64 b, .int .i64 n] x y z d true) (a2 : Ans 12 #[msgV 3 4 r' s, .int .i64 a, .int .i64 b, .int .i64 n] x y z' s true) (a3 : Ans 13 #[msgV 3 4 r d, .int .i64 a, .int .i64 b] u v t ⟨#[]⟩ false) (a4 : Ans 13 #[msgV 3 4 r' s, .int .i64 a, .int .i64 b] u v t' ⟨#[]⟩ false) :
    Calls Try.prog 4 #[msgV 3 4 r d, .int .u32 r', .string s, .int .i64 a, .int .i64 b, .int .i64 n] w fun e w' => e = .returned (.bool true) ∧ Below w.heap.size w w' := by
  have c1 := fun w => a1 w
  have c2 := fun w => a2 w
  have c3 := fun w => a3 w
  have c4 := fun w => a4 w
  clear a1 a2 a3 a4
  go_enter Try.func4, Try.ntmps4
  go_wp2_with (first | (go_at_call 11; (with_reducible refine (awake_any _).mono ?_); rintro e w1 ⟨rfl, hb1⟩; have BM1 := (Blk.new _ _).below hb1; obtain ⟨mb10, mb11, mb12, mb13⟩ := BM1.four; obtain ⟨mq10, mq11, mq12, mq13⟩ := (BM1.alloc (.cells #[.int .i64 3, .int .i64 4, .int .u32 r', .string s] 26)).four) | (go_at_call 12; (with_reducible refine (c1 _).mono ?_); rintro e w2 ⟨rfl, hb2⟩; have BM2 := (BM1.alloc _).below hb2; have BN2 := (Blk.new _ _).below hb2; obtain ⟨nq20, nq21, nq22, nq23⟩ := (BN2.alloc (.cells #[.int .i64 x, .int .i64 y, .int .u32 z, .string d] 26)).four) | (go_at_call 12; (with_reducible refine (c2 _).mono ?_); rintro e w3 ⟨rfl, hb3⟩; have BM3 := (BM2.alloc _).below hb3; have BN3 := (BN2.alloc _).below hb3; have BA3 := (Blk.new _ _).below hb3; obtain ⟨mq30, mq31, mq32, mq33⟩ := (BM3.alloc (.cells #[.int .i64 x, .int .i64 y, .int .u32 z', .string s] 26)).four; obtain ⟨aq30, aq31, aq32, aq33⟩ := (BA3.alloc (.cells #[.int .i64 x, .int .i64 y, .int .u32 z', .string s] 26)).four) | (go_at_call 13; (with_reducible refine (c3 _).mono ?_); rintro e w4 ⟨rfl, hb4⟩; have BM4 := (BM3.alloc _).below hb4; have BN4 := (BN3.alloc _).below hb4; have BA4 := (BA3.alloc _).below hb4; have BC4 := (Blk.new _ _).below hb4; obtain ⟨nq40, nq41, nq42, nq43⟩ := (BN4.alloc (.cells #[.int .i64 u, .int .i64 v, .int .u32 t, .string ⟨#[]⟩] 26)).four) | (go_at_call 13; (with_reducible refine (c4 _).mono ?_); rintro e w5 ⟨rfl, hb5⟩; have BM5 := (BM4.alloc _).below hb5; have BN5 := (BN4.alloc _).below hb5; have BA5 := (BA4.alloc _).below hb5; have BC5 := (BC4.alloc _).below hb5; have BX5 := (Blk.new _ _).below hb5; obtain ⟨mq50, mq51, mq52, mq53⟩ := (BM5.alloc (.cells #[.int .i64 u, .int .i64 v, .int .u32 t', .string ⟨#[]⟩] 26)).four; obtain ⟨xq50, xq51, xq52, xq53⟩ := (BX5.alloc (.cells #[.int .i64 u, .int .i64 v, .int .u32 t', .string ⟨#[]⟩] 26)).four))
  go_ret
  have H1 : Below w.heap.size w w1 := ((Below.refl _ _).alloc (Nat.le_refl _) _).trans (hb1.mono (by simp))
  have H2 : Below w.heap.size w w2 := (H1.alloc H1.size _).trans (hb2.mono (by have := H1.size; simp; omega))
  have H3 : Below w.heap.size w w3 := (H2.alloc H2.size _).trans (hb3.mono (by have := H2.size; simp; omega))
  have H4 : Below w.heap.size w w4 := (H3.alloc H3.size _).trans (hb4.mono (by have := H3.size; simp; omega))
  have H5 : Below w.heap.size w w5 := (H4.alloc H4.size _).trans (hb5.mono (by have := H4.size; simp; omega))
  exact ⟨rfl, H5.alloc H5.size _⟩
set_option maxRecDepth 100000 in
set_option maxHeartbeats 8000000 in
theorem data_3_true_true (c r r' a b n x y z u v t t' : Int) (d s : ByteArray) (w : World) (hd : (d.size : Int) ≤ 1000) (hs : (s.size : Int) ≤ 1000) (h4 : (c != 4) = true)
    (a1 : Ans 12 #[msgV 3 c r d, .int .i64 a, .int .i64 b, .int .i64 n] x y z d true) (a2 : Ans 12 #[msgV 3 c r' s, .int .i64 a, .int .i64 b, .int .i64 n] x y z s true) (a3 : Ans 13 #[msgV 3 c r d, .int .i64 a, .int .i64 b] u v t d true) (a4 : Ans 13 #[msgV 3 c r' s, .int .i64 a, .int .i64 b] u v t' s true) :
    Calls Try.prog 4 #[msgV 3 c r d, .int .u32 r', .string s, .int .i64 a, .int .i64 b, .int .i64 n] w fun e w' => e = .returned (.bool true) ∧ Below w.heap.size w w' := by
  have c1 := fun w => a1 w
  have c2 := fun w => a2 w
  have c3 := fun w => a3 w
  have c4 := fun w => a4 w
  clear a1 a2 a3 a4
  go_enter Try.func4, Try.ntmps4
  go_wp2_with (first | (go_at_call 11; (with_reducible refine (awake_any _).mono ?_); rintro e w1 ⟨rfl, hb1⟩; have BM1 := (Blk.new _ _).below hb1; obtain ⟨mb10, mb11, mb12, mb13⟩ := BM1.four; obtain ⟨mq10, mq11, mq12, mq13⟩ := (BM1.alloc (.cells #[.int .i64 3, .int .i64 c, .int .u32 r', .string s] 26)).four) | (go_at_call 12; (with_reducible refine (c1 _).mono ?_); rintro e w2 ⟨rfl, hb2⟩; have BM2 := (BM1.alloc _).below hb2; have BN2 := (Blk.new _ _).below hb2; obtain ⟨nq20, nq21, nq22, nq23⟩ := (BN2.alloc (.cells #[.int .i64 x, .int .i64 y, .int .u32 z, .string d] 26)).four) | (go_at_call 12; (with_reducible refine (c2 _).mono ?_); rintro e w3 ⟨rfl, hb3⟩; have BM3 := (BM2.alloc _).below hb3; have BN3 := (BN2.alloc _).below hb3; have BA3 := (Blk.new _ _).below hb3; obtain ⟨mq30, mq31, mq32, mq33⟩ := (BM3.alloc (.cells #[.int .i64 x, .int .i64 y, .int .u32 z, .string s] 26)).four; obtain ⟨aq30, aq31, aq32, aq33⟩ := (BA3.alloc (.cells #[.int .i64 x, .int .i64 y, .int .u32 z, .string s] 26)).four) | (go_at_call 13; (with_reducible refine (c3 _).mono ?_); rintro e w4 ⟨rfl, hb4⟩; have BM4 := (BM3.alloc _).below hb4; have BN4 := (BN3.alloc _).below hb4; have BA4 := (BA3.alloc _).below hb4; have BC4 := (Blk.new _ _).below hb4; obtain ⟨nq40, nq41, nq42, nq43⟩ := (BN4.alloc (.cells #[.int .i64 u, .int .i64 v, .int .u32 t, .string d] 26)).four) | (go_at_call 13; (with_reducible refine (c4 _).mono ?_); rintro e w5 ⟨rfl, hb5⟩; have BM5 := (BM4.alloc _).below hb5; have BN5 := (BN4.alloc _).below hb5; have BA5 := (BA4.alloc _).below hb5; have BC5 := (BC4.alloc _).below hb5; have BX5 := (Blk.new _ _).below hb5; obtain ⟨mq50, mq51, mq52, mq53⟩ := (BM5.alloc (.cells #[.int .i64 u, .int .i64 v, .int .u32 t', .string s] 26)).four; obtain ⟨xq50, xq51, xq52, xq53⟩ := (BX5.alloc (.cells #[.int .i64 u, .int .i64 v, .int .u32 t', .string s] 26)).four))
  go_ret
  have H1 : Below w.heap.size w w1 := ((Below.refl _ _).alloc (Nat.le_refl _) _).trans (hb1.mono (by simp))
  have H2 : Below w.heap.size w w2 := (H1.alloc H1.size _).trans (hb2.mono (by have := H1.size; simp; omega))
  have H3 : Below w.heap.size w w3 := (H2.alloc H2.size _).trans (hb3.mono (by have := H2.size; simp; omega))
  have H4 : Below w.heap.size w w4 := (H3.alloc H3.size _).trans (hb4.mono (by have := H3.size; simp; omega))
  have H5 : Below w.heap.size w w5 := (H4.alloc H4.size _).trans (hb5.mono (by have := H4.size; simp; omega))
  exact ⟨rfl, H5.alloc H5.size _⟩
set_option maxRecDepth 100000 in
set_option maxHeartbeats 8000000 in
theorem data_g_true_true (k c r r' a b n x y z u v t t' : Int) (d s : ByteArray) (w : World) (hd : (d.size : Int) ≤ 1000) (hs : (s.size : Int) ≤ 1000) (h12 : (k != 12) = true) (h8 : (k != 8) = true) (h0 : (k != 0) = true) (h3 : (k != 3) = true) (h4 : (k == 4) = false)
    (a1 : Ans 12 #[msgV k c r d, .int .i64 a, .int .i64 b, .int .i64 n] x y z d true) (a2 : Ans 12 #[msgV k c r' s, .int .i64 a, .int .i64 b, .int .i64 n] x y z s true) (a3 : Ans 13 #[msgV k c r d, .int .i64 a, .int .i64 b] u v t d true) (a4 : Ans 13 #[msgV k c r' s, .int .i64 a, .int .i64 b] u v t' s true) :
    Calls Try.prog 4 #[msgV k c r d, .int .u32 r', .string s, .int .i64 a, .int .i64 b, .int .i64 n] w fun e w' => e = .returned (.bool true) ∧ Below w.heap.size w w' := by
  have c1 := fun w => a1 w
  have c2 := fun w => a2 w
  have c3 := fun w => a3 w
  have c4 := fun w => a4 w
  clear a1 a2 a3 a4
  go_enter Try.func4, Try.ntmps4
  go_wp2_with (first | (go_at_call 11; (with_reducible refine (awake_any _).mono ?_); rintro e w1 ⟨rfl, hb1⟩; have BM1 := (Blk.new _ _).below hb1; obtain ⟨mb10, mb11, mb12, mb13⟩ := BM1.four; obtain ⟨mq10, mq11, mq12, mq13⟩ := (BM1.alloc (.cells #[.int .i64 k, .int .i64 c, .int .u32 r', .string s] 26)).four) | (go_at_call 12; (with_reducible refine (c1 _).mono ?_); rintro e w2 ⟨rfl, hb2⟩; have BM2 := (BM1.alloc _).below hb2; have BN2 := (Blk.new _ _).below hb2; obtain ⟨nq20, nq21, nq22, nq23⟩ := (BN2.alloc (.cells #[.int .i64 x, .int .i64 y, .int .u32 z, .string d] 26)).four) | (go_at_call 12; (with_reducible refine (c2 _).mono ?_); rintro e w3 ⟨rfl, hb3⟩; have BM3 := (BM2.alloc _).below hb3; have BN3 := (BN2.alloc _).below hb3; have BA3 := (Blk.new _ _).below hb3; obtain ⟨mq30, mq31, mq32, mq33⟩ := (BM3.alloc (.cells #[.int .i64 x, .int .i64 y, .int .u32 z, .string s] 26)).four; obtain ⟨aq30, aq31, aq32, aq33⟩ := (BA3.alloc (.cells #[.int .i64 x, .int .i64 y, .int .u32 z, .string s] 26)).four) | (go_at_call 13; (with_reducible refine (c3 _).mono ?_); rintro e w4 ⟨rfl, hb4⟩; have BM4 := (BM3.alloc _).below hb4; have BN4 := (BN3.alloc _).below hb4; have BA4 := (BA3.alloc _).below hb4; have BC4 := (Blk.new _ _).below hb4; obtain ⟨nq40, nq41, nq42, nq43⟩ := (BN4.alloc (.cells #[.int .i64 u, .int .i64 v, .int .u32 t, .string d] 26)).four) | (go_at_call 13; (with_reducible refine (c4 _).mono ?_); rintro e w5 ⟨rfl, hb5⟩; have BM5 := (BM4.alloc _).below hb5; have BN5 := (BN4.alloc _).below hb5; have BA5 := (BA4.alloc _).below hb5; have BC5 := (BC4.alloc _).below hb5; have BX5 := (Blk.new _ _).below hb5; obtain ⟨mq50, mq51, mq52, mq53⟩ := (BM5.alloc (.cells #[.int .i64 u, .int .i64 v, .int .u32 t', .string s] 26)).four; obtain ⟨xq50, xq51, xq52, xq53⟩ := (BX5.alloc (.cells #[.int .i64 u, .int .i64 v, .int .u32 t', .string s] 26)).four))
  go_ret
  have H1 : Below w.heap.size w w1 := ((Below.refl _ _).alloc (Nat.le_refl _) _).trans (hb1.mono (by simp))
  have H2 : Below w.heap.size w w2 := (H1.alloc H1.size _).trans (hb2.mono (by have := H1.size; simp; omega))
  have H3 : Below w.heap.size w w3 := (H2.alloc H2.size _).trans (hb3.mono (by have := H2.size; simp; omega))
  have H4 : Below w.heap.size w w4 := (H3.alloc H3.size _).trans (hb4.mono (by have := H3.size; simp; omega))
  have H5 : Below w.heap.size w w5 := (H4.alloc H4.size _).trans (hb5.mono (by have := H4.size; simp; omega))
  exact ⟨rfl, H5.alloc H5.size _⟩
set_option maxRecDepth 100000 in
set_option maxHeartbeats 8000000 in
theorem data_3_true_false (c r r' a b n x y z u v t t' : Int) (d s : ByteArray) (w : World) (hd : (d.size : Int) ≤ 1000) (hs : (s.size : Int) ≤ 1000) (h4 : (c != 4) = true)
    (a1 : Ans 12 #[msgV 3 c r d, .int .i64 a, .int .i64 b, .int .i64 n] x y z d true) (a2 : Ans 12 #[msgV 3 c r' s, .int .i64 a, .int .i64 b, .int .i64 n] x y z s true) (a3 : Ans 13 #[msgV 3 c r d, .int .i64 a, .int .i64 b] u v t ⟨#[]⟩ false) (a4 : Ans 13 #[msgV 3 c r' s, .int .i64 a, .int .i64 b] u v t' ⟨#[]⟩ false) :
    Calls Try.prog 4 #[msgV 3 c r d, .int .u32 r', .string s, .int .i64 a, .int .i64 b, .int .i64 n] w fun e w' => e = .returned (.bool true) ∧ Below w.heap.size w w' := by
  have c1 := fun w => a1 w
  have c2 := fun w => a2 w
  have c3 := fun w => a3 w
  have c4 := fun w => a4 w
  clear a1 a2 a3 a4
  go_enter Try.func4, Try.ntmps4
  go_wp2_with (first | (go_at_call 11; (with_reducible refine (awake_any _).mono ?_); rintro e w1 ⟨rfl, hb1⟩; have BM1 := (Blk.new _ _).below hb1; obtain ⟨mb10, mb11, mb12, mb13⟩ := BM1.four; obtain ⟨mq10, mq11, mq12, mq13⟩ := (BM1.alloc (.cells #[.int .i64 3, .int .i64 c, .int .u32 r', .string s] 26)).four) | (go_at_call 12; (with_reducible refine (c1 _).mono ?_); rintro e w2 ⟨rfl, hb2⟩; have BM2 := (BM1.alloc _).below hb2; have BN2 := (Blk.new _ _).below hb2; obtain ⟨nq20, nq21, nq22, nq23⟩ := (BN2.alloc (.cells #[.int .i64 x, .int .i64 y, .int .u32 z, .string d] 26)).four) | (go_at_call 12; (with_reducible refine (c2 _).mono ?_); rintro e w3 ⟨rfl, hb3⟩; have BM3 := (BM2.alloc _).below hb3; have BN3 := (BN2.alloc _).below hb3; have BA3 := (Blk.new _ _).below hb3; obtain ⟨mq30, mq31, mq32, mq33⟩ := (BM3.alloc (.cells #[.int .i64 x, .int .i64 y, .int .u32 z, .string s] 26)).four; obtain ⟨aq30, aq31, aq32, aq33⟩ := (BA3.alloc (.cells #[.int .i64 x, .int .i64 y, .int .u32 z, .string s] 26)).four) | (go_at_call 13; (with_reducible refine (c3 _).mono ?_); rintro e w4 ⟨rfl, hb4⟩; have BM4 := (BM3.alloc _).below hb4; have BN4 := (BN3.alloc _).below hb4; have BA4 := (BA3.alloc _).below hb4; have BC4 := (Blk.new _ _).below hb4; obtain ⟨nq40, nq41, nq42, nq43⟩ := (BN4.alloc (.cells #[.int .i64 u, .int .i64 v, .int .u32 t, .string ⟨#[]⟩] 26)).four) | (go_at_call 13; (with_reducible refine (c4 _).mono ?_); rintro e w5 ⟨rfl, hb5⟩; have BM5 := (BM4.alloc _).below hb5; have BN5 := (BN4.alloc _).below hb5; have BA5 := (BA4.alloc _).below hb5; have BC5 := (BC4.alloc _).below hb5; have BX5 := (Blk.new _ _).below hb5; obtain ⟨mq50, mq51, mq52, mq53⟩ := (BM5.alloc (.cells #[.int .i64 u, .int .i64 v, .int .u32 t', .string ⟨#[]⟩] 26)).four; obtain ⟨xq50, xq51, xq52, xq53⟩ := (BX5.alloc (.cells #[.int .i64 u, .int .i64 v, .int .u32 t', .string ⟨#[]⟩] 26)).four))
  go_ret
  have H1 : Below w.heap.size w w1 := ((Below.refl _ _).alloc (Nat.le_refl _) _).trans (hb1.mono (by simp))
  have H2 : Below w.heap.size w w2 := (H1.alloc H1.size _).trans (hb2.mono (by have := H1.size; simp; omega))
  have H3 : Below w.heap.size w w3 := (H2.alloc H2.size _).trans (hb3.mono (by have := H2.size; simp; omega))
  have H4 : Below w.heap.size w w4 := (H3.alloc H3.size _).trans (hb4.mono (by have := H3.size; simp; omega))
  have H5 : Below w.heap.size w w5 := (H4.alloc H4.size _).trans (hb5.mono (by have := H4.size; simp; omega))
  exact ⟨rfl, H5.alloc H5.size _⟩
set_option maxRecDepth 100000 in
set_option maxHeartbeats 8000000 in
theorem data_g_true_false (k c r r' a b n x y z u v t t' : Int) (d s : ByteArray) (w : World) (hd : (d.size : Int) ≤ 1000) (hs : (s.size : Int) ≤ 1000) (h12 : (k != 12) = true) (h8 : (k != 8) = true) (h0 : (k != 0) = true) (h3 : (k != 3) = true) (h4 : (k == 4) = false)
    (a1 : Ans 12 #[msgV k c r d, .int .i64 a, .int .i64 b, .int .i64 n] x y z d true) (a2 : Ans 12 #[msgV k c r' s, .int .i64 a, .int .i64 b, .int .i64 n] x y z s true) (a3 : Ans 13 #[msgV k c r d, .int .i64 a, .int .i64 b] u v t ⟨#[]⟩ false) (a4 : Ans 13 #[msgV k c r' s, .int .i64 a, .int .i64 b] u v t' ⟨#[]⟩ false) :
    Calls Try.prog 4 #[msgV k c r d, .int .u32 r', .string s, .int .i64 a, .int .i64 b, .int .i64 n] w fun e w' => e = .returned (.bool true) ∧ Below w.heap.size w w' := by
  have c1 := fun w => a1 w
  have c2 := fun w => a2 w
  have c3 := fun w => a3 w
  have c4 := fun w => a4 w
  clear a1 a2 a3 a4
  go_enter Try.func4, Try.ntmps4
  go_wp2_with (first | (go_at_call 11; (with_reducible refine (awake_any _).mono ?_); rintro e w1 ⟨rfl, hb1⟩; have BM1 := (Blk.new _ _).below hb1; obtain ⟨mb10, mb11, mb12, mb13⟩ := BM1.four; obtain ⟨mq10, mq11, mq12, mq13⟩ := (BM1.alloc (.cells #[.int .i64 k, .int .i64 c, .int .u32 r', .string s] 26)).four) | (go_at_call 12; (with_reducible refine (c1 _).mono ?_); rintro e w2 ⟨rfl, hb2⟩; have BM2 := (BM1.alloc _).below hb2; have BN2 := (Blk.new _ _).below hb2; obtain ⟨nq20, nq21, nq22, nq23⟩ := (BN2.alloc (.cells #[.int .i64 x, .int .i64 y, .int .u32 z, .string d] 26)).four) | (go_at_call 12; (with_reducible refine (c2 _).mono ?_); rintro e w3 ⟨rfl, hb3⟩; have BM3 := (BM2.alloc _).below hb3; have BN3 := (BN2.alloc _).below hb3; have BA3 := (Blk.new _ _).below hb3; obtain ⟨mq30, mq31, mq32, mq33⟩ := (BM3.alloc (.cells #[.int .i64 x, .int .i64 y, .int .u32 z, .string s] 26)).four; obtain ⟨aq30, aq31, aq32, aq33⟩ := (BA3.alloc (.cells #[.int .i64 x, .int .i64 y, .int .u32 z, .string s] 26)).four) | (go_at_call 13; (with_reducible refine (c3 _).mono ?_); rintro e w4 ⟨rfl, hb4⟩; have BM4 := (BM3.alloc _).below hb4; have BN4 := (BN3.alloc _).below hb4; have BA4 := (BA3.alloc _).below hb4; have BC4 := (Blk.new _ _).below hb4; obtain ⟨nq40, nq41, nq42, nq43⟩ := (BN4.alloc (.cells #[.int .i64 u, .int .i64 v, .int .u32 t, .string ⟨#[]⟩] 26)).four) | (go_at_call 13; (with_reducible refine (c4 _).mono ?_); rintro e w5 ⟨rfl, hb5⟩; have BM5 := (BM4.alloc _).below hb5; have BN5 := (BN4.alloc _).below hb5; have BA5 := (BA4.alloc _).below hb5; have BC5 := (BC4.alloc _).below hb5; have BX5 := (Blk.new _ _).below hb5; obtain ⟨mq50, mq51, mq52, mq53⟩ := (BM5.alloc (.cells #[.int .i64 u, .int .i64 v, .int .u32 t', .string ⟨#[]⟩] 26)).four; obtain ⟨xq50, xq51, xq52, xq53⟩ := (BX5.alloc (.cells #[.int .i64 u, .int .i64 v, .int .u32 t', .string ⟨#[]⟩] 26)).four))
  go_ret
  have H1 : Below w.heap.size w w1 := ((Below.refl _ _).alloc (Nat.le_refl _) _).trans (hb1.mono (by simp))
  have H2 : Below w.heap.size w w2 := (H1.alloc H1.size _).trans (hb2.mono (by have := H1.size; simp; omega))
  have H3 : Below w.heap.size w w3 := (H2.alloc H2.size _).trans (hb3.mono (by have := H2.size; simp; omega))
  have H4 : Below w.heap.size w w4 := (H3.alloc H3.size _).trans (hb4.mono (by have := H3.size; simp; omega))
  have H5 : Below w.heap.size w w5 := (H4.alloc H4.size _).trans (hb5.mono (by have := H4.size; simp; omega))
  exact ⟨rfl, H5.alloc H5.size _⟩
set_option maxRecDepth 100000 in
set_option maxHeartbeats 8000000 in
theorem data_8_false (c r r' a b n x y z u v t t' z' : Int) (d s : ByteArray) (w : World) (hd : (d.size : Int) ≤ 1000) (hs : (s.size : Int) ≤ 1000)
    (a1 : Ans 12 #[msgV 8 c r d, .int .i64 a, .int .i64 b, .int .i64 n] x y z ⟨#[]⟩ false) (a2 : Ans 12 #[msgV 8 c r' s, .int .i64 a, .int .i64 b, .int .i64 n] x y z' ⟨#[]⟩ false) (a3 : Ans 13 #[msgV 8 c r d, .int .i64 a, .int .i64 b] u v t ⟨#[]⟩ false) (a4 : Ans 13 #[msgV 8 c r' s, .int .i64 a, .int .i64 b] u v t' ⟨#[]⟩ false) :
    Calls Try.prog 4 #[msgV 8 c r d, .int .u32 r', .string s, .int .i64 a, .int .i64 b, .int .i64 n] w fun e w' => e = .returned (.bool true) ∧ Below w.heap.size w w' := by
  have c1 := fun w => a1 w
  have c2 := fun w => a2 w
  have c3 := fun w => a3 w
  have c4 := fun w => a4 w
  clear a1 a2 a3 a4
  go_enter Try.func4, Try.ntmps4
  go_wp2_with (first | (go_at_call 11; (with_reducible refine (awake_any _).mono ?_); rintro e w1 ⟨rfl, hb1⟩; have BM1 := (Blk.new _ _).below hb1; obtain ⟨mb10, mb11, mb12, mb13⟩ := BM1.four; obtain ⟨mq10, mq11, mq12, mq13⟩ := (BM1.alloc (.cells #[.int .i64 8, .int .i64 c, .int .u32 r', .string s] 26)).four) | (go_at_call 12; (with_reducible refine (c1 _).mono ?_); rintro e w2 ⟨rfl, hb2⟩; have BM2 := (BM1.alloc _).below hb2; have BN2 := (Blk.new _ _).below hb2; obtain ⟨nq20, nq21, nq22, nq23⟩ := (BN2.alloc (.cells #[.int .i64 x, .int .i64 y, .int .u32 z, .string ⟨#[]⟩] 26)).four) | (go_at_call 12; (with_reducible refine (c2 _).mono ?_); rintro e w3 ⟨rfl, hb3⟩; have BM3 := (BM2.alloc _).below hb3; have BN3 := (BN2.alloc _).below hb3; have BA3 := (Blk.new _ _).below hb3; obtain ⟨mq30, mq31, mq32, mq33⟩ := (BM3.alloc (.cells #[.int .i64 x, .int .i64 y, .int .u32 z', .string ⟨#[]⟩] 26)).four; obtain ⟨aq30, aq31, aq32, aq33⟩ := (BA3.alloc (.cells #[.int .i64 x, .int .i64 y, .int .u32 z', .string ⟨#[]⟩] 26)).four) | (go_at_call 13; (with_reducible refine (c3 _).mono ?_); rintro e w4 ⟨rfl, hb4⟩; have BM4 := (BM3.alloc _).below hb4; have BN4 := (BN3.alloc _).below hb4; have BA4 := (BA3.alloc _).below hb4; have BC4 := (Blk.new _ _).below hb4; obtain ⟨nq40, nq41, nq42, nq43⟩ := (BN4.alloc (.cells #[.int .i64 u, .int .i64 v, .int .u32 t, .string ⟨#[]⟩] 26)).four) | (go_at_call 13; (with_reducible refine (c4 _).mono ?_); rintro e w5 ⟨rfl, hb5⟩; have BM5 := (BM4.alloc _).below hb5; have BN5 := (BN4.alloc _).below hb5; have BA5 := (BA4.alloc _).below hb5; have BC5 := (BC4.alloc _).below hb5; have BX5 := (Blk.new _ _).below hb5; obtain ⟨mq50, mq51, mq52, mq53⟩ := (BM5.alloc (.cells #[.int .i64 u, .int .i64 v, .int .u32 t', .string ⟨#[]⟩] 26)).four; obtain ⟨xq50, xq51, xq52, xq53⟩ := (BX5.alloc (.cells #[.int .i64 u, .int .i64 v, .int .u32 t', .string ⟨#[]⟩] 26)).four))
  go_ret
  have H1 : Below w.heap.size w w1 := ((Below.refl _ _).alloc (Nat.le_refl _) _).trans (hb1.mono (by simp))
  have H2 : Below w.heap.size w w2 := (H1.alloc H1.size _).trans (hb2.mono (by have := H1.size; simp; omega))
  have H3 : Below w.heap.size w w3 := (H2.alloc H2.size _).trans (hb3.mono (by have := H2.size; simp; omega))
  have H4 : Below w.heap.size w w4 := (H3.alloc H3.size _).trans (hb4.mono (by have := H3.size; simp; omega))
  have H5 : Below w.heap.size w w5 := (H4.alloc H4.size _).trans (hb5.mono (by have := H4.size; simp; omega))
  exact ⟨rfl, H5.alloc H5.size _⟩
set_option maxRecDepth 100000 in
set_option maxHeartbeats 8000000 in
theorem data_0_false (c r r' a b n x y z u v t t' z' : Int) (d s : ByteArray) (w : World) (hd : (d.size : Int) ≤ 1000) (hs : (s.size : Int) ≤ 1000)
    (a1 : Ans 12 #[msgV 0 c r d, .int .i64 a, .int .i64 b, .int .i64 n] x y z ⟨#[]⟩ false) (a2 : Ans 12 #[msgV 0 c r' s, .int .i64 a, .int .i64 b, .int .i64 n] x y z' ⟨#[]⟩ false) (a3 : Ans 13 #[msgV 0 c r d, .int .i64 a, .int .i64 b] u v t ⟨#[]⟩ false) (a4 : Ans 13 #[msgV 0 c r' s, .int .i64 a, .int .i64 b] u v t' ⟨#[]⟩ false) :
    Calls Try.prog 4 #[msgV 0 c r d, .int .u32 r', .string s, .int .i64 a, .int .i64 b, .int .i64 n] w fun e w' => e = .returned (.bool true) ∧ Below w.heap.size w w' := by
  have c1 := fun w => a1 w
  have c2 := fun w => a2 w
  have c3 := fun w => a3 w
  have c4 := fun w => a4 w
  clear a1 a2 a3 a4
  go_enter Try.func4, Try.ntmps4
  go_wp2_with (first | (go_at_call 11; (with_reducible refine (awake_any _).mono ?_); rintro e w1 ⟨rfl, hb1⟩; have BM1 := (Blk.new _ _).below hb1; obtain ⟨mb10, mb11, mb12, mb13⟩ := BM1.four; obtain ⟨mq10, mq11, mq12, mq13⟩ := (BM1.alloc (.cells #[.int .i64 0, .int .i64 c, .int .u32 r', .string s] 26)).four) | (go_at_call 12; (with_reducible refine (c1 _).mono ?_); rintro e w2 ⟨rfl, hb2⟩; have BM2 := (BM1.alloc _).below hb2; have BN2 := (Blk.new _ _).below hb2; obtain ⟨nq20, nq21, nq22, nq23⟩ := (BN2.alloc (.cells #[.int .i64 x, .int .i64 y, .int .u32 z, .string ⟨#[]⟩] 26)).four) | (go_at_call 12; (with_reducible refine (c2 _).mono ?_); rintro e w3 ⟨rfl, hb3⟩; have BM3 := (BM2.alloc _).below hb3; have BN3 := (BN2.alloc _).below hb3; have BA3 := (Blk.new _ _).below hb3; obtain ⟨mq30, mq31, mq32, mq33⟩ := (BM3.alloc (.cells #[.int .i64 x, .int .i64 y, .int .u32 z', .string ⟨#[]⟩] 26)).four; obtain ⟨aq30, aq31, aq32, aq33⟩ := (BA3.alloc (.cells #[.int .i64 x, .int .i64 y, .int .u32 z', .string ⟨#[]⟩] 26)).four) | (go_at_call 13; (with_reducible refine (c3 _).mono ?_); rintro e w4 ⟨rfl, hb4⟩; have BM4 := (BM3.alloc _).below hb4; have BN4 := (BN3.alloc _).below hb4; have BA4 := (BA3.alloc _).below hb4; have BC4 := (Blk.new _ _).below hb4; obtain ⟨nq40, nq41, nq42, nq43⟩ := (BN4.alloc (.cells #[.int .i64 u, .int .i64 v, .int .u32 t, .string ⟨#[]⟩] 26)).four) | (go_at_call 13; (with_reducible refine (c4 _).mono ?_); rintro e w5 ⟨rfl, hb5⟩; have BM5 := (BM4.alloc _).below hb5; have BN5 := (BN4.alloc _).below hb5; have BA5 := (BA4.alloc _).below hb5; have BC5 := (BC4.alloc _).below hb5; have BX5 := (Blk.new _ _).below hb5; obtain ⟨mq50, mq51, mq52, mq53⟩ := (BM5.alloc (.cells #[.int .i64 u, .int .i64 v, .int .u32 t', .string ⟨#[]⟩] 26)).four; obtain ⟨xq50, xq51, xq52, xq53⟩ := (BX5.alloc (.cells #[.int .i64 u, .int .i64 v, .int .u32 t', .string ⟨#[]⟩] 26)).four))
  go_ret
  have H1 : Below w.heap.size w w1 := ((Below.refl _ _).alloc (Nat.le_refl _) _).trans (hb1.mono (by simp))
  have H2 : Below w.heap.size w w2 := (H1.alloc H1.size _).trans (hb2.mono (by have := H1.size; simp; omega))
  have H3 : Below w.heap.size w w3 := (H2.alloc H2.size _).trans (hb3.mono (by have := H2.size; simp; omega))
  have H4 : Below w.heap.size w w4 := (H3.alloc H3.size _).trans (hb4.mono (by have := H3.size; simp; omega))
  have H5 : Below w.heap.size w w5 := (H4.alloc H4.size _).trans (hb5.mono (by have := H4.size; simp; omega))
  exact ⟨rfl, H5.alloc H5.size _⟩
set_option maxRecDepth 100000 in
set_option maxHeartbeats 8000000 in
theorem data_34_false (r r' a b n x y z u v t t' z' : Int) (d s : ByteArray) (w : World) (hd : (d.size : Int) ≤ 1000) (hs : (s.size : Int) ≤ 1000)
    (a1 : Ans 12 #[msgV 3 4 r d, .int .i64 a, .int .i64 b, .int .i64 n] x y z ⟨#[]⟩ false) (a2 : Ans 12 #[msgV 3 4 r' s, .int .i64 a, .int .i64 b, .int .i64 n] x y z' ⟨#[]⟩ false) (a3 : Ans 13 #[msgV 3 4 r d, .int .i64 a, .int .i64 b] u v t ⟨#[]⟩ false) (a4 : Ans 13 #[msgV 3 4 r' s, .int .i64 a, .int .i64 b] u v t' ⟨#[]⟩ false) :
    Calls Try.prog 4 #[msgV 3 4 r d, .int .u32 r', .string s, .int .i64 a, .int .i64 b, .int .i64 n] w fun e w' => e = .returned (.bool true) ∧ Below w.heap.size w w' := by
  have c1 := fun w => a1 w
  have c2 := fun w => a2 w
  have c3 := fun w => a3 w
  have c4 := fun w => a4 w
  clear a1 a2 a3 a4
  go_enter Try.func4, Try.ntmps4
  go_wp2_with (first | (go_at_call 11; (with_reducible refine (awake_any _).mono ?_); rintro e w1 ⟨rfl, hb1⟩; have BM1 := (Blk.new _ _).below hb1; obtain ⟨mb10, mb11, mb12, mb13⟩ := BM1.four; obtain ⟨mq10, mq11, mq12, mq13⟩ := (BM1.alloc (.cells #[.int .i64 3, .int .i64 4, .int .u32 r', .string s] 26)).four) | (go_at_call 12; (with_reducible refine (c1 _).mono ?_); rintro e w2 ⟨rfl, hb2⟩; have BM2 := (BM1.alloc _).below hb2; have BN2 := (Blk.new _ _).below hb2; obtain ⟨nq20, nq21, nq22, nq23⟩ := (BN2.alloc (.cells #[.int .i64 x, .int .i64 y, .int .u32 z, .string ⟨#[]⟩] 26)).four) | (go_at_call 12; (with_reducible refine (c2 _).mono ?_); rintro e w3 ⟨rfl, hb3⟩; have BM3 := (BM2.alloc _).below hb3; have BN3 := (BN2.alloc _).below hb3; have BA3 := (Blk.new _ _).below hb3; obtain ⟨mq30, mq31, mq32, mq33⟩ := (BM3.alloc (.cells #[.int .i64 x, .int .i64 y, .int .u32 z', .string ⟨#[]⟩] 26)).four; obtain ⟨aq30, aq31, aq32, aq33⟩ := (BA3.alloc (.cells #[.int .i64 x, .int .i64 y, .int .u32 z', .string ⟨#[]⟩] 26)).four) | (go_at_call 13; (with_reducible refine (c3 _).mono ?_); rintro e w4 ⟨rfl, hb4⟩; have BM4 := (BM3.alloc _).below hb4; have BN4 := (BN3.alloc _).below hb4; have BA4 := (BA3.alloc _).below hb4; have BC4 := (Blk.new _ _).below hb4; obtain ⟨nq40, nq41, nq42, nq43⟩ := (BN4.alloc (.cells #[.int .i64 u, .int .i64 v, .int .u32 t, .string ⟨#[]⟩] 26)).four) | (go_at_call 13; (with_reducible refine (c4 _).mono ?_); rintro e w5 ⟨rfl, hb5⟩; have BM5 := (BM4.alloc _).below hb5; have BN5 := (BN4.alloc _).below hb5; have BA5 := (BA4.alloc _).below hb5; have BC5 := (BC4.alloc _).below hb5; have BX5 := (Blk.new _ _).below hb5; obtain ⟨mq50, mq51, mq52, mq53⟩ := (BM5.alloc (.cells #[.int .i64 u, .int .i64 v, .int .u32 t', .string ⟨#[]⟩] 26)).four; obtain ⟨xq50, xq51, xq52, xq53⟩ := (BX5.alloc (.cells #[.int .i64 u, .int .i64 v, .int .u32 t', .string ⟨#[]⟩] 26)).four))
  go_ret
  have H1 : Below w.heap.size w w1 := ((Below.refl _ _).alloc (Nat.le_refl _) _).trans (hb1.mono (by simp))
  have H2 : Below w.heap.size w w2 := (H1.alloc H1.size _).trans (hb2.mono (by have := H1.size; simp; omega))
  have H3 : Below w.heap.size w w3 := (H2.alloc H2.size _).trans (hb3.mono (by have := H2.size; simp; omega))
  have H4 : Below w.heap.size w w4 := (H3.alloc H3.size _).trans (hb4.mono (by have := H3.size; simp; omega))
  have H5 : Below w.heap.size w w5 := (H4.alloc H4.size _).trans (hb5.mono (by have := H4.size; simp; omega))
  exact ⟨rfl, H5.alloc H5.size _⟩
set_option maxRecDepth 100000 in
set_option maxHeartbeats 8000000 in
theorem data_3_false_true (c r r' a b n x y z u v t t' : Int) (d s : ByteArray) (w : World) (hd : (d.size : Int) ≤ 1000) (hs : (s.size : Int) ≤ 1000) (h4 : (c != 4) = true)
    (a1 : Ans 12 #[msgV 3 c r d, .int .i64 a, .int .i64 b, .int .i64 n] x y z ⟨#[]⟩ false) (a2 : Ans 12 #[msgV 3 c r' s, .int .i64 a, .int .i64 b, .int .i64 n] x y z ⟨#[]⟩ false) (a3 : Ans 13 #[msgV 3 c r d, .int .i64 a, .int .i64 b] u v t d true) (a4 : Ans 13 #[msgV 3 c r' s, .int .i64 a, .int .i64 b] u v t' s true) :
    Calls Try.prog 4 #[msgV 3 c r d, .int .u32 r', .string s, .int .i64 a, .int .i64 b, .int .i64 n] w fun e w' => e = .returned (.bool true) ∧ Below w.heap.size w w' := by
  have c1 := fun w => a1 w
  have c2 := fun w => a2 w
  have c3 := fun w => a3 w
  have c4 := fun w => a4 w
  clear a1 a2 a3 a4
  go_enter Try.func4, Try.ntmps4
  go_wp2_with (first | (go_at_call 11; (with_reducible refine (awake_any _).mono ?_); rintro e w1 ⟨rfl, hb1⟩; have BM1 := (Blk.new _ _).below hb1; obtain ⟨mb10, mb11, mb12, mb13⟩ := BM1.four; obtain ⟨mq10, mq11, mq12, mq13⟩ := (BM1.alloc (.cells #[.int .i64 3, .int .i64 c, .int .u32 r', .string s] 26)).four) | (go_at_call 12; (with_reducible refine (c1 _).mono ?_); rintro e w2 ⟨rfl, hb2⟩; have BM2 := (BM1.alloc _).below hb2; have BN2 := (Blk.new _ _).below hb2; obtain ⟨nq20, nq21, nq22, nq23⟩ := (BN2.alloc (.cells #[.int .i64 x, .int .i64 y, .int .u32 z, .string ⟨#[]⟩] 26)).four) | (go_at_call 12; (with_reducible refine (c2 _).mono ?_); rintro e w3 ⟨rfl, hb3⟩; have BM3 := (BM2.alloc _).below hb3; have BN3 := (BN2.alloc _).below hb3; have BA3 := (Blk.new _ _).below hb3; obtain ⟨mq30, mq31, mq32, mq33⟩ := (BM3.alloc (.cells #[.int .i64 x, .int .i64 y, .int .u32 z, .string ⟨#[]⟩] 26)).four; obtain ⟨aq30, aq31, aq32, aq33⟩ := (BA3.alloc (.cells #[.int .i64 x, .int .i64 y, .int .u32 z, .string ⟨#[]⟩] 26)).four) | (go_at_call 13; (with_reducible refine (c3 _).mono ?_); rintro e w4 ⟨rfl, hb4⟩; have BM4 := (BM3.alloc _).below hb4; have BN4 := (BN3.alloc _).below hb4; have BA4 := (BA3.alloc _).below hb4; have BC4 := (Blk.new _ _).below hb4; obtain ⟨nq40, nq41, nq42, nq43⟩ := (BN4.alloc (.cells #[.int .i64 u, .int .i64 v, .int .u32 t, .string d] 26)).four) | (go_at_call 13; (with_reducible refine (c4 _).mono ?_); rintro e w5 ⟨rfl, hb5⟩; have BM5 := (BM4.alloc _).below hb5; have BN5 := (BN4.alloc _).below hb5; have BA5 := (BA4.alloc _).below hb5; have BC5 := (BC4.alloc _).below hb5; have BX5 := (Blk.new _ _).below hb5; obtain ⟨mq50, mq51, mq52, mq53⟩ := (BM5.alloc (.cells #[.int .i64 u, .int .i64 v, .int .u32 t', .string s] 26)).four; obtain ⟨xq50, xq51, xq52, xq53⟩ := (BX5.alloc (.cells #[.int .i64 u, .int .i64 v, .int .u32 t', .string s] 26)).four))
  go_ret
  have H1 : Below w.heap.size w w1 := ((Below.refl _ _).alloc (Nat.le_refl _) _).trans (hb1.mono (by simp))
  have H2 : Below w.heap.size w w2 := (H1.alloc H1.size _).trans (hb2.mono (by have := H1.size; simp; omega))
  have H3 : Below w.heap.size w w3 := (H2.alloc H2.size _).trans (hb3.mono (by have := H2.size; simp; omega))
  have H4 : Below w.heap.size w w4 := (H3.alloc H3.size _).trans (hb4.mono (by have := H3.size; simp; omega))
  have H5 : Below w.heap.size w w5 := (H4.alloc H4.size _).trans (hb5.mono (by have := H4.size; simp; omega))
  exact ⟨rfl, H5.alloc H5.size _⟩
set_option maxRecDepth 100000 in
set_option maxHeartbeats 8000000 in
theorem data_g_false_true (k c r r' a b n x y z u v t t' : Int) (d s : ByteArray) (w : World) (hd : (d.size : Int) ≤ 1000) (hs : (s.size : Int) ≤ 1000) (h12 : (k != 12) = true) (h8 : (k != 8) = true) (h0 : (k != 0) = true) (h3 : (k != 3) = true) (h4 : (k == 4) = false)
    (a1 : Ans 12 #[msgV k c r d, .int .i64 a, .int .i64 b, .int .i64 n] x y z ⟨#[]⟩ false) (a2 : Ans 12 #[msgV k c r' s, .int .i64 a, .int .i64 b, .int .i64 n] x y z ⟨#[]⟩ false) (a3 : Ans 13 #[msgV k c r d, .int .i64 a, .int .i64 b] u v t d true) (a4 : Ans 13 #[msgV k c r' s, .int .i64 a, .int .i64 b] u v t' s true) :
    Calls Try.prog 4 #[msgV k c r d, .int .u32 r', .string s, .int .i64 a, .int .i64 b, .int .i64 n] w fun e w' => e = .returned (.bool true) ∧ Below w.heap.size w w' := by
  have c1 := fun w => a1 w
  have c2 := fun w => a2 w
  have c3 := fun w => a3 w
  have c4 := fun w => a4 w
  clear a1 a2 a3 a4
  go_enter Try.func4, Try.ntmps4
  go_wp2_with (first | (go_at_call 11; (with_reducible refine (awake_any _).mono ?_); rintro e w1 ⟨rfl, hb1⟩; have BM1 := (Blk.new _ _).below hb1; obtain ⟨mb10, mb11, mb12, mb13⟩ := BM1.four; obtain ⟨mq10, mq11, mq12, mq13⟩ := (BM1.alloc (.cells #[.int .i64 k, .int .i64 c, .int .u32 r', .string s] 26)).four) | (go_at_call 12; (with_reducible refine (c1 _).mono ?_); rintro e w2 ⟨rfl, hb2⟩; have BM2 := (BM1.alloc _).below hb2; have BN2 := (Blk.new _ _).below hb2; obtain ⟨nq20, nq21, nq22, nq23⟩ := (BN2.alloc (.cells #[.int .i64 x, .int .i64 y, .int .u32 z, .string ⟨#[]⟩] 26)).four) | (go_at_call 12; (with_reducible refine (c2 _).mono ?_); rintro e w3 ⟨rfl, hb3⟩; have BM3 := (BM2.alloc _).below hb3; have BN3 := (BN2.alloc _).below hb3; have BA3 := (Blk.new _ _).below hb3; obtain ⟨mq30, mq31, mq32, mq33⟩ := (BM3.alloc (.cells #[.int .i64 x, .int .i64 y, .int .u32 z, .string ⟨#[]⟩] 26)).four; obtain ⟨aq30, aq31, aq32, aq33⟩ := (BA3.alloc (.cells #[.int .i64 x, .int .i64 y, .int .u32 z, .string ⟨#[]⟩] 26)).four) | (go_at_call 13; (with_reducible refine (c3 _).mono ?_); rintro e w4 ⟨rfl, hb4⟩; have BM4 := (BM3.alloc _).below hb4; have BN4 := (BN3.alloc _).below hb4; have BA4 := (BA3.alloc _).below hb4; have BC4 := (Blk.new _ _).below hb4; obtain ⟨nq40, nq41, nq42, nq43⟩ := (BN4.alloc (.cells #[.int .i64 u, .int .i64 v, .int .u32 t, .string d] 26)).four) | (go_at_call 13; (with_reducible refine (c4 _).mono ?_); rintro e w5 ⟨rfl, hb5⟩; have BM5 := (BM4.alloc _).below hb5; have BN5 := (BN4.alloc _).below hb5; have BA5 := (BA4.alloc _).below hb5; have BC5 := (BC4.alloc _).below hb5; have BX5 := (Blk.new _ _).below hb5; obtain ⟨mq50, mq51, mq52, mq53⟩ := (BM5.alloc (.cells #[.int .i64 u, .int .i64 v, .int .u32 t', .string s] 26)).four; obtain ⟨xq50, xq51, xq52, xq53⟩ := (BX5.alloc (.cells #[.int .i64 u, .int .i64 v, .int .u32 t', .string s] 26)).four))
  go_ret
  have H1 : Below w.heap.size w w1 := ((Below.refl _ _).alloc (Nat.le_refl _) _).trans (hb1.mono (by simp))
  have H2 : Below w.heap.size w w2 := (H1.alloc H1.size _).trans (hb2.mono (by have := H1.size; simp; omega))
  have H3 : Below w.heap.size w w3 := (H2.alloc H2.size _).trans (hb3.mono (by have := H2.size; simp; omega))
  have H4 : Below w.heap.size w w4 := (H3.alloc H3.size _).trans (hb4.mono (by have := H3.size; simp; omega))
  have H5 : Below w.heap.size w w5 := (H4.alloc H4.size _).trans (hb5.mono (by have := H4.size; simp; omega))
  exact ⟨rfl, H5.alloc H5.size _⟩
set_option maxRecDepth 100000 in
set_option maxHeartbeats 8000000 in
theorem data_3_false_false (c r r' a b n x y z u v t t' : Int) (d s : ByteArray) (w : World) (hd : (d.size : Int) ≤ 1000) (hs : (s.size : Int) ≤ 1000) (h4 : (c != 4) = true)
    (a1 : Ans 12 #[msgV 3 c r d, .int .i64 a, .int .i64 b, .int .i64 n] x y z ⟨#[]⟩ false) (a2 : Ans 12 #[msgV 3 c r' s, .int .i64 a, .int .i64 b, .int .i64 n] x y z ⟨#[]⟩ false) (a3 : Ans 13 #[msgV 3 c r d, .int .i64 a, .int .i64 b] u v t ⟨#[]⟩ false) (a4 : Ans 13 #[msgV 3 c r' s, .int .i64 a, .int .i64 b] u v t' ⟨#[]⟩ false) :
    Calls Try.prog 4 #[msgV 3 c r d, .int .u32 r', .string s, .int .i64 a, .int .i64 b, .int .i64 n] w fun e w' => e = .returned (.bool true) ∧ Below w.heap.size w w' := by
  have c1 := fun w => a1 w
  have c2 := fun w => a2 w
  have c3 := fun w => a3 w
  have c4 := fun w => a4 w
  clear a1 a2 a3 a4
  go_enter Try.func4, Try.ntmps4
  go_wp2_with (first | (go_at_call 11; (with_reducible refine (awake_any _).mono ?_); rintro e w1 ⟨rfl, hb1⟩; have BM1 := (Blk.new _ _).below hb1; obtain ⟨mb10, mb11, mb12, mb13⟩ := BM1.four; obtain ⟨mq10, mq11, mq12, mq13⟩ := (BM1.alloc (.cells #[.int .i64 3, .int .i64 c, .int .u32 r', .string s] 26)).four) | (go_at_call 12; (with_reducible refine (c1 _).mono ?_); rintro e w2 ⟨rfl, hb2⟩; have BM2 := (BM1.alloc _).below hb2; have BN2 := (Blk.new _ _).below hb2; obtain ⟨nq20, nq21, nq22, nq23⟩ := (BN2.alloc (.cells #[.int .i64 x, .int .i64 y, .int .u32 z, .string ⟨#[]⟩] 26)).four) | (go_at_call 12; (with_reducible refine (c2 _).mono ?_); rintro e w3 ⟨rfl, hb3⟩; have BM3 := (BM2.alloc _).below hb3; have BN3 := (BN2.alloc _).below hb3; have BA3 := (Blk.new _ _).below hb3; obtain ⟨mq30, mq31, mq32, mq33⟩ := (BM3.alloc (.cells #[.int .i64 x, .int .i64 y, .int .u32 z, .string ⟨#[]⟩] 26)).four; obtain ⟨aq30, aq31, aq32, aq33⟩ := (BA3.alloc (.cells #[.int .i64 x, .int .i64 y, .int .u32 z, .string ⟨#[]⟩] 26)).four) | (go_at_call 13; (with_reducible refine (c3 _).mono ?_); rintro e w4 ⟨rfl, hb4⟩; have BM4 := (BM3.alloc _).below hb4; have BN4 := (BN3.alloc _).below hb4; have BA4 := (BA3.alloc _).below hb4; have BC4 := (Blk.new _ _).below hb4; obtain ⟨nq40, nq41, nq42, nq43⟩ := (BN4.alloc (.cells #[.int .i64 u, .int .i64 v, .int .u32 t, .string ⟨#[]⟩] 26)).four) | (go_at_call 13; (with_reducible refine (c4 _).mono ?_); rintro e w5 ⟨rfl, hb5⟩; have BM5 := (BM4.alloc _).below hb5; have BN5 := (BN4.alloc _).below hb5; have BA5 := (BA4.alloc _).below hb5; have BC5 := (BC4.alloc _).below hb5; have BX5 := (Blk.new _ _).below hb5; obtain ⟨mq50, mq51, mq52, mq53⟩ := (BM5.alloc (.cells #[.int .i64 u, .int .i64 v, .int .u32 t', .string ⟨#[]⟩] 26)).four; obtain ⟨xq50, xq51, xq52, xq53⟩ := (BX5.alloc (.cells #[.int .i64 u, .int .i64 v, .int .u32 t', .string ⟨#[]⟩] 26)).four))
  go_ret
  have H1 : Below w.heap.size w w1 := ((Below.refl _ _).alloc (Nat.le_refl _) _).trans (hb1.mono (by simp))
  have H2 : Below w.heap.size w w2 := (H1.alloc H1.size _).trans (hb2.mono (by have := H1.size; simp; omega))
  have H3 : Below w.heap.size w w3 := (H2.alloc H2.size _).trans (hb3.mono (by have := H2.size; simp; omega))
  have H4 : Below w.heap.size w w4 := (H3.alloc H3.size _).trans (hb4.mono (by have := H3.size; simp; omega))
  have H5 : Below w.heap.size w w5 := (H4.alloc H4.size _).trans (hb5.mono (by have := H4.size; simp; omega))
  exact ⟨rfl, H5.alloc H5.size _⟩
set_option maxRecDepth 100000 in
set_option maxHeartbeats 8000000 in
theorem data_g_false_false (k c r r' a b n x y z u v t t' : Int) (d s : ByteArray) (w : World) (hd : (d.size : Int) ≤ 1000) (hs : (s.size : Int) ≤ 1000) (h12 : (k != 12) = true) (h8 : (k != 8) = true) (h0 : (k != 0) = true) (h3 : (k != 3) = true) (h4 : (k == 4) = false)
    (a1 : Ans 12 #[msgV k c r d, .int .i64 a, .int .i64 b, .int .i64 n] x y z ⟨#[]⟩ false) (a2 : Ans 12 #[msgV k c r' s, .int .i64 a, .int .i64 b, .int .i64 n] x y z ⟨#[]⟩ false) (a3 : Ans 13 #[msgV k c r d, .int .i64 a, .int .i64 b] u v t ⟨#[]⟩ false) (a4 : Ans 13 #[msgV k c r' s, .int .i64 a, .int .i64 b] u v t' ⟨#[]⟩ false) :
    Calls Try.prog 4 #[msgV k c r d, .int .u32 r', .string s, .int .i64 a, .int .i64 b, .int .i64 n] w fun e w' => e = .returned (.bool true) ∧ Below w.heap.size w w' := by
  have c1 := fun w => a1 w
  have c2 := fun w => a2 w
  have c3 := fun w => a3 w
  have c4 := fun w => a4 w
  clear a1 a2 a3 a4
  go_enter Try.func4, Try.ntmps4
  go_wp2_with (first | (go_at_call 11; (with_reducible refine (awake_any _).mono ?_); rintro e w1 ⟨rfl, hb1⟩; have BM1 := (Blk.new _ _).below hb1; obtain ⟨mb10, mb11, mb12, mb13⟩ := BM1.four; obtain ⟨mq10, mq11, mq12, mq13⟩ := (BM1.alloc (.cells #[.int .i64 k, .int .i64 c, .int .u32 r', .string s] 26)).four) | (go_at_call 12; (with_reducible refine (c1 _).mono ?_); rintro e w2 ⟨rfl, hb2⟩; have BM2 := (BM1.alloc _).below hb2; have BN2 := (Blk.new _ _).below hb2; obtain ⟨nq20, nq21, nq22, nq23⟩ := (BN2.alloc (.cells #[.int .i64 x, .int .i64 y, .int .u32 z, .string ⟨#[]⟩] 26)).four) | (go_at_call 12; (with_reducible refine (c2 _).mono ?_); rintro e w3 ⟨rfl, hb3⟩; have BM3 := (BM2.alloc _).below hb3; have BN3 := (BN2.alloc _).below hb3; have BA3 := (Blk.new _ _).below hb3; obtain ⟨mq30, mq31, mq32, mq33⟩ := (BM3.alloc (.cells #[.int .i64 x, .int .i64 y, .int .u32 z, .string ⟨#[]⟩] 26)).four; obtain ⟨aq30, aq31, aq32, aq33⟩ := (BA3.alloc (.cells #[.int .i64 x, .int .i64 y, .int .u32 z, .string ⟨#[]⟩] 26)).four) | (go_at_call 13; (with_reducible refine (c3 _).mono ?_); rintro e w4 ⟨rfl, hb4⟩; have BM4 := (BM3.alloc _).below hb4; have BN4 := (BN3.alloc _).below hb4; have BA4 := (BA3.alloc _).below hb4; have BC4 := (Blk.new _ _).below hb4; obtain ⟨nq40, nq41, nq42, nq43⟩ := (BN4.alloc (.cells #[.int .i64 u, .int .i64 v, .int .u32 t, .string ⟨#[]⟩] 26)).four) | (go_at_call 13; (with_reducible refine (c4 _).mono ?_); rintro e w5 ⟨rfl, hb5⟩; have BM5 := (BM4.alloc _).below hb5; have BN5 := (BN4.alloc _).below hb5; have BA5 := (BA4.alloc _).below hb5; have BC5 := (BC4.alloc _).below hb5; have BX5 := (Blk.new _ _).below hb5; obtain ⟨mq50, mq51, mq52, mq53⟩ := (BM5.alloc (.cells #[.int .i64 u, .int .i64 v, .int .u32 t', .string ⟨#[]⟩] 26)).four; obtain ⟨xq50, xq51, xq52, xq53⟩ := (BX5.alloc (.cells #[.int .i64 u, .int .i64 v, .int .u32 t', .string ⟨#[]⟩] 26)).four))
  go_ret
  have H1 : Below w.heap.size w w1 := ((Below.refl _ _).alloc (Nat.le_refl _) _).trans (hb1.mono (by simp))
  have H2 : Below w.heap.size w w2 := (H1.alloc H1.size _).trans (hb2.mono (by have := H1.size; simp; omega))
  have H3 : Below w.heap.size w w3 := (H2.alloc H2.size _).trans (hb3.mono (by have := H2.size; simp; omega))
  have H4 : Below w.heap.size w w4 := (H3.alloc H3.size _).trans (hb4.mono (by have := H3.size; simp; omega))
  have H5 : Below w.heap.size w w5 := (H4.alloc H4.size _).trans (hb5.mono (by have := H4.size; simp; omega))
  exact ⟨rfl, H5.alloc H5.size _⟩
set_option maxRecDepth 100000 in
set_option maxHeartbeats 8000000 in
theorem data_40 (r r' a b n x y z u v t t' u' v' : Int) (p p' : Bool) (d s s3 s4 : ByteArray) (w : World) (hd : (d.size : Int) ≤ 1000) (hs : (s.size : Int) ≤ 1000)
    (a1 : Ans 12 #[msgV 4 0 r d, .int .i64 a, .int .i64 b, .int .i64 n] x y z ⟨#[]⟩ false) (a2 : Ans 12 #[msgV 4 0 r' s, .int .i64 a, .int .i64 b, .int .i64 n] x y z ⟨#[]⟩ false) (a3 : Ans 13 #[msgV 4 0 r d, .int .i64 a, .int .i64 b] u v t s3 p) (a4 : Ans 13 #[msgV 4 0 r' s, .int .i64 a, .int .i64 b] u' v' t' s4 p') :
    Calls Try.prog 4 #[msgV 4 0 r d, .int .u32 r', .string s, .int .i64 a, .int .i64 b, .int .i64 n] w fun e w' => e = .returned (.bool true) ∧ Below w.heap.size w w' := by
  have c1 := fun w => a1 w
  have c2 := fun w => a2 w
  have c3 := fun w => a3 w
  have c4 := fun w => a4 w
  clear a1 a2 a3 a4
  go_enter Try.func4, Try.ntmps4
  go_wp2_with (first | (go_at_call 11; (with_reducible refine (awake_any _).mono ?_); rintro e w1 ⟨rfl, hb1⟩; have BM1 := (Blk.new _ _).below hb1; obtain ⟨mb10, mb11, mb12, mb13⟩ := BM1.four; obtain ⟨mq10, mq11, mq12, mq13⟩ := (BM1.alloc (.cells #[.int .i64 4, .int .i64 0, .int .u32 r', .string s] 26)).four) | (go_at_call 12; (with_reducible refine (c1 _).mono ?_); rintro e w2 ⟨rfl, hb2⟩; have BM2 := (BM1.alloc _).below hb2; have BN2 := (Blk.new _ _).below hb2; obtain ⟨nq20, nq21, nq22, nq23⟩ := (BN2.alloc (.cells #[.int .i64 x, .int .i64 y, .int .u32 z, .string ⟨#[]⟩] 26)).four) | (go_at_call 12; (with_reducible refine (c2 _).mono ?_); rintro e w3 ⟨rfl, hb3⟩; have BM3 := (BM2.alloc _).below hb3; have BN3 := (BN2.alloc _).below hb3; have BA3 := (Blk.new _ _).below hb3; obtain ⟨mq30, mq31, mq32, mq33⟩ := (BM3.alloc (.cells #[.int .i64 x, .int .i64 y, .int .u32 z, .string ⟨#[]⟩] 26)).four; obtain ⟨aq30, aq31, aq32, aq33⟩ := (BA3.alloc (.cells #[.int .i64 x, .int .i64 y, .int .u32 z, .string ⟨#[]⟩] 26)).four) | (go_at_call 13; (with_reducible refine (c3 _).mono ?_); rintro e w4 ⟨rfl, hb4⟩; have BM4 := (BM3.alloc _).below hb4; have BN4 := (BN3.alloc _).below hb4; have BA4 := (BA3.alloc _).below hb4; have BC4 := (Blk.new _ _).below hb4; obtain ⟨nq40, nq41, nq42, nq43⟩ := (BN4.alloc (.cells #[.int .i64 u, .int .i64 v, .int .u32 t, .string s3] 26)).four) | (go_at_call 13; (with_reducible refine (c4 _).mono ?_); rintro e w5 ⟨rfl, hb5⟩; have BM5 := (BM4.alloc _).below hb5; have BN5 := (BN4.alloc _).below hb5; have BA5 := (BA4.alloc _).below hb5; have BC5 := (BC4.alloc _).below hb5; have BX5 := (Blk.new _ _).below hb5; obtain ⟨mq50, mq51, mq52, mq53⟩ := (BM5.alloc (.cells #[.int .i64 u', .int .i64 v', .int .u32 t', .string s4] 26)).four; obtain ⟨xq50, xq51, xq52, xq53⟩ := (BX5.alloc (.cells #[.int .i64 u', .int .i64 v', .int .u32 t', .string s4] 26)).four))
  go_ret
  have H1 : Below w.heap.size w w1 := ((Below.refl _ _).alloc (Nat.le_refl _) _).trans (hb1.mono (by simp))
  have H2 : Below w.heap.size w w2 := (H1.alloc H1.size _).trans (hb2.mono (by have := H1.size; simp; omega))
  have H3 : Below w.heap.size w w3 := (H2.alloc H2.size _).trans (hb3.mono (by have := H2.size; simp; omega))
  have H4 : Below w.heap.size w w4 := (H3.alloc H3.size _).trans (hb4.mono (by have := H3.size; simp; omega))
  have H5 : Below w.heap.size w w5 := (H4.alloc H4.size _).trans (hb5.mono (by have := H4.size; simp; omega))
  exact ⟨rfl, H5.alloc H5.size _⟩
set_option maxRecDepth 100000 in
set_option maxHeartbeats 8000000 in
theorem data_4_true (c r r' a b n x y z u v t t' : Int) (d s : ByteArray) (w : World) (hd : (d.size : Int) ≤ 1000) (hs : (s.size : Int) ≤ 1000) (h0 : (c == 0) = false)
    (a1 : Ans 12 #[msgV 4 c r d, .int .i64 a, .int .i64 b, .int .i64 n] x y z ⟨#[]⟩ false) (a2 : Ans 12 #[msgV 4 c r' s, .int .i64 a, .int .i64 b, .int .i64 n] x y z ⟨#[]⟩ false) (a3 : Ans 13 #[msgV 4 c r d, .int .i64 a, .int .i64 b] u v t d true) (a4 : Ans 13 #[msgV 4 c r' s, .int .i64 a, .int .i64 b] u v t' s true) :
    Calls Try.prog 4 #[msgV 4 c r d, .int .u32 r', .string s, .int .i64 a, .int .i64 b, .int .i64 n] w fun e w' => e = .returned (.bool true) ∧ Below w.heap.size w w' := by
  have c1 := fun w => a1 w
  have c2 := fun w => a2 w
  have c3 := fun w => a3 w
  have c4 := fun w => a4 w
  clear a1 a2 a3 a4
  go_enter Try.func4, Try.ntmps4
  go_wp2_with (first | (go_at_call 11; (with_reducible refine (awake_any _).mono ?_); rintro e w1 ⟨rfl, hb1⟩; have BM1 := (Blk.new _ _).below hb1; obtain ⟨mb10, mb11, mb12, mb13⟩ := BM1.four; obtain ⟨mq10, mq11, mq12, mq13⟩ := (BM1.alloc (.cells #[.int .i64 4, .int .i64 c, .int .u32 r', .string s] 26)).four) | (go_at_call 12; (with_reducible refine (c1 _).mono ?_); rintro e w2 ⟨rfl, hb2⟩; have BM2 := (BM1.alloc _).below hb2; have BN2 := (Blk.new _ _).below hb2; obtain ⟨nq20, nq21, nq22, nq23⟩ := (BN2.alloc (.cells #[.int .i64 x, .int .i64 y, .int .u32 z, .string ⟨#[]⟩] 26)).four) | (go_at_call 12; (with_reducible refine (c2 _).mono ?_); rintro e w3 ⟨rfl, hb3⟩; have BM3 := (BM2.alloc _).below hb3; have BN3 := (BN2.alloc _).below hb3; have BA3 := (Blk.new _ _).below hb3; obtain ⟨mq30, mq31, mq32, mq33⟩ := (BM3.alloc (.cells #[.int .i64 x, .int .i64 y, .int .u32 z, .string ⟨#[]⟩] 26)).four; obtain ⟨aq30, aq31, aq32, aq33⟩ := (BA3.alloc (.cells #[.int .i64 x, .int .i64 y, .int .u32 z, .string ⟨#[]⟩] 26)).four) | (go_at_call 13; (with_reducible refine (c3 _).mono ?_); rintro e w4 ⟨rfl, hb4⟩; have BM4 := (BM3.alloc _).below hb4; have BN4 := (BN3.alloc _).below hb4; have BA4 := (BA3.alloc _).below hb4; have BC4 := (Blk.new _ _).below hb4; obtain ⟨nq40, nq41, nq42, nq43⟩ := (BN4.alloc (.cells #[.int .i64 u, .int .i64 v, .int .u32 t, .string d] 26)).four) | (go_at_call 13; (with_reducible refine (c4 _).mono ?_); rintro e w5 ⟨rfl, hb5⟩; have BM5 := (BM4.alloc _).below hb5; have BN5 := (BN4.alloc _).below hb5; have BA5 := (BA4.alloc _).below hb5; have BC5 := (BC4.alloc _).below hb5; have BX5 := (Blk.new _ _).below hb5; obtain ⟨mq50, mq51, mq52, mq53⟩ := (BM5.alloc (.cells #[.int .i64 u, .int .i64 v, .int .u32 t', .string s] 26)).four; obtain ⟨xq50, xq51, xq52, xq53⟩ := (BX5.alloc (.cells #[.int .i64 u, .int .i64 v, .int .u32 t', .string s] 26)).four))
  go_ret
  have H1 : Below w.heap.size w w1 := ((Below.refl _ _).alloc (Nat.le_refl _) _).trans (hb1.mono (by simp))
  have H2 : Below w.heap.size w w2 := (H1.alloc H1.size _).trans (hb2.mono (by have := H1.size; simp; omega))
  have H3 : Below w.heap.size w w3 := (H2.alloc H2.size _).trans (hb3.mono (by have := H2.size; simp; omega))
  have H4 : Below w.heap.size w w4 := (H3.alloc H3.size _).trans (hb4.mono (by have := H3.size; simp; omega))
  have H5 : Below w.heap.size w w5 := (H4.alloc H4.size _).trans (hb5.mono (by have := H4.size; simp; omega))
  exact ⟨rfl, H5.alloc H5.size _⟩
set_option maxRecDepth 100000 in
set_option maxHeartbeats 8000000 in
theorem data_4_false (c r r' a b n x y z u v t t' : Int) (d s : ByteArray) (w : World) (hd : (d.size : Int) ≤ 1000) (hs : (s.size : Int) ≤ 1000) (h0 : (c == 0) = false)
    (a1 : Ans 12 #[msgV 4 c r d, .int .i64 a, .int .i64 b, .int .i64 n] x y z ⟨#[]⟩ false) (a2 : Ans 12 #[msgV 4 c r' s, .int .i64 a, .int .i64 b, .int .i64 n] x y z ⟨#[]⟩ false) (a3 : Ans 13 #[msgV 4 c r d, .int .i64 a, .int .i64 b] u v t ⟨#[]⟩ false) (a4 : Ans 13 #[msgV 4 c r' s, .int .i64 a, .int .i64 b] u v t' ⟨#[]⟩ false) :
    Calls Try.prog 4 #[msgV 4 c r d, .int .u32 r', .string s, .int .i64 a, .int .i64 b, .int .i64 n] w fun e w' => e = .returned (.bool true) ∧ Below w.heap.size w w' := by
  have c1 := fun w => a1 w
  have c2 := fun w => a2 w
  have c3 := fun w => a3 w
  have c4 := fun w => a4 w
  clear a1 a2 a3 a4
  go_enter Try.func4, Try.ntmps4
  go_wp2_with (first | (go_at_call 11; (with_reducible refine (awake_any _).mono ?_); rintro e w1 ⟨rfl, hb1⟩; have BM1 := (Blk.new _ _).below hb1; obtain ⟨mb10, mb11, mb12, mb13⟩ := BM1.four; obtain ⟨mq10, mq11, mq12, mq13⟩ := (BM1.alloc (.cells #[.int .i64 4, .int .i64 c, .int .u32 r', .string s] 26)).four) | (go_at_call 12; (with_reducible refine (c1 _).mono ?_); rintro e w2 ⟨rfl, hb2⟩; have BM2 := (BM1.alloc _).below hb2; have BN2 := (Blk.new _ _).below hb2; obtain ⟨nq20, nq21, nq22, nq23⟩ := (BN2.alloc (.cells #[.int .i64 x, .int .i64 y, .int .u32 z, .string ⟨#[]⟩] 26)).four) | (go_at_call 12; (with_reducible refine (c2 _).mono ?_); rintro e w3 ⟨rfl, hb3⟩; have BM3 := (BM2.alloc _).below hb3; have BN3 := (BN2.alloc _).below hb3; have BA3 := (Blk.new _ _).below hb3; obtain ⟨mq30, mq31, mq32, mq33⟩ := (BM3.alloc (.cells #[.int .i64 x, .int .i64 y, .int .u32 z, .string ⟨#[]⟩] 26)).four; obtain ⟨aq30, aq31, aq32, aq33⟩ := (BA3.alloc (.cells #[.int .i64 x, .int .i64 y, .int .u32 z, .string ⟨#[]⟩] 26)).four) | (go_at_call 13; (with_reducible refine (c3 _).mono ?_); rintro e w4 ⟨rfl, hb4⟩; have BM4 := (BM3.alloc _).below hb4; have BN4 := (BN3.alloc _).below hb4; have BA4 := (BA3.alloc _).below hb4; have BC4 := (Blk.new _ _).below hb4; obtain ⟨nq40, nq41, nq42, nq43⟩ := (BN4.alloc (.cells #[.int .i64 u, .int .i64 v, .int .u32 t, .string ⟨#[]⟩] 26)).four) | (go_at_call 13; (with_reducible refine (c4 _).mono ?_); rintro e w5 ⟨rfl, hb5⟩; have BM5 := (BM4.alloc _).below hb5; have BN5 := (BN4.alloc _).below hb5; have BA5 := (BA4.alloc _).below hb5; have BC5 := (BC4.alloc _).below hb5; have BX5 := (Blk.new _ _).below hb5; obtain ⟨mq50, mq51, mq52, mq53⟩ := (BM5.alloc (.cells #[.int .i64 u, .int .i64 v, .int .u32 t', .string ⟨#[]⟩] 26)).four; obtain ⟨xq50, xq51, xq52, xq53⟩ := (BX5.alloc (.cells #[.int .i64 u, .int .i64 v, .int .u32 t', .string ⟨#[]⟩] 26)).four))
  go_ret
  have H1 : Below w.heap.size w w1 := ((Below.refl _ _).alloc (Nat.le_refl _) _).trans (hb1.mono (by simp))
  have H2 : Below w.heap.size w w2 := (H1.alloc H1.size _).trans (hb2.mono (by have := H1.size; simp; omega))
  have H3 : Below w.heap.size w w3 := (H2.alloc H2.size _).trans (hb3.mono (by have := H2.size; simp; omega))
  have H4 : Below w.heap.size w w4 := (H3.alloc H3.size _).trans (hb4.mono (by have := H3.size; simp; omega))
  have H5 : Below w.heap.size w w5 := (H4.alloc H4.size _).trans (hb5.mono (by have := H4.size; simp; omega))
  exact ⟨rfl, H5.alloc H5.size _⟩
end Go.Proofs.Ytcppckpkiloilaa
