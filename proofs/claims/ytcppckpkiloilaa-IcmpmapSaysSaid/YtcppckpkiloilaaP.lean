/-
  Contract of the reference's To6, where it reckons: it answers by t6. Condition: the rest is a uint32.
-/
import Derived.Test.YtcppckpkiloilaaO
namespace Go.Proofs.Ytcppckpkiloilaa
open Go.RowKit
set_option linter.unusedSimpArgs false

theorem rplateau_is {n m : Int} (h : pl n = m) (w : World) : Calls Try.prog 17 #[.int .i64 n] w fun e w' => e = .returned (.int .i64 m) ∧ Below w.heap.size w w' := by
  rw [← h]; exact rplateau_any n w
set_option maxRecDepth 100000 in
set_option maxHeartbeats 8000000 in
theorem rto6_sides (k c r : Int) (d : ByteArray) (a b n : Int) (w : World) (hs : ¬ Sides a b) :
    Calls Try.prog 15 #[msgV k c r d, .int .i64 a, .int .i64 b, .int .i64 n] w fun e w' => e = .returned (retM none d) ∧ Below w.heap.size w w' := by
  have c24 := fun w => rbounds_f a b w hs
  clear hs
  go_enter Try.func15, Try.ntmps15
  go_wp2_with (first | (go_at_call 24; (with_reducible refine (c24 _).mono ?_); rintro e w1 ⟨rfl, rfl⟩))
  refine bodyPost_ret (v := retM none d) (by simp [results, Try.results15, go_sem, retM]) rfl ⟨rfl, ?_⟩
  go_grown

set_option maxRecDepth 100000 in
set_option maxHeartbeats 8000000 in
theorem rto6_mtu1 (r : Int) (d : ByteArray) (a b n m : Int) (w : World) (hs : Sides a b) (hr : 0 ≤ r) (hr' : r < 4294967296) (hm : r % 65536 = m) (hm0 : 0 < m) :
    Calls Try.prog 15 #[msgV 3 4 r d, .int .i64 a, .int .i64 b, .int .i64 n] w fun e w' => e = .returned (retM (some (2, 0, least6 m a b)) d) ∧ Below w.heap.size w w' := by
  have c24 := fun w => rbounds_t a b w hs
  obtain ⟨h1, h2, h3, h4⟩ := hs
  have hm1 : m < 65536 := by omega
  go_enter Try.func15, Try.ntmps15
  go_wp2_with (first | (go_at_call 24; (with_reducible refine (c24 _).mono ?_); rintro e w1 ⟨rfl, rfl⟩))
  all_goals
    refine bodyPost_ret (v := .tuple #[.agg #[.int .i64 2, .int .i64 0, .int .u32 (least6 m a b), .string d], .bool true]) (by simp [results, Try.results15, go_sem]; unfold least6; omega) rfl ⟨rfl, ?_⟩
    go_grown
set_option maxRecDepth 100000 in
set_option maxHeartbeats 8000000 in
theorem rto6_mtu0 (r : Int) (d : ByteArray) (a b n m : Int) (w : World) (hs : Sides a b) (hr : 0 ≤ r) (hr' : r < 4294967296) (hm : r % 65536 = 0) (hp : pl n = m) :
    Calls Try.prog 15 #[msgV 3 4 r d, .int .i64 a, .int .i64 b, .int .i64 n] w fun e w' => e = .returned (retM (some (2, 0, least6 m a b)) d) ∧ Below w.heap.size w w' := by
  have c24 := fun w => rbounds_t a b w hs
  have c17 := fun w => rplateau_is hp w
  obtain ⟨h1, h2, h3, h4⟩ := hs
  have hm1 := pl_range n
  rw [hp] at hm1
  obtain ⟨hm1, hm2⟩ := hm1
  clear hp
  go_enter Try.func15, Try.ntmps15
  go_wp2_with (first | (go_at_call 24; (with_reducible refine (c24 _).mono ?_); rintro e w1 ⟨rfl, rfl⟩) | (go_at_call 17; (with_reducible refine (c17 _).mono ?_); rintro e w2 ⟨rfl, hb2⟩; obtain ⟨hc2, hf2⟩ := bcell hb2))
  all_goals
    refine bodyPost_ret (v := .tuple #[.agg #[.int .i64 2, .int .i64 0, .int .u32 (least6 m a b), .string d], .bool true]) (by simp [results, Try.results15, go_sem, hc2]; unfold least6; omega) rfl ⟨rfl, ?_⟩
    have HB2 : Below w.heap.size w w2 := (((Below.refl _ _).alloc (Nat.le_refl _) _).alloc (by simp) _).trans (hb2.mono (by simp; omega))
    go_grown
end Go.Proofs.Ytcppckpkiloilaa
