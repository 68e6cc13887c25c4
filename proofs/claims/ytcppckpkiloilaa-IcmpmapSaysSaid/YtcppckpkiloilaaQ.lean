/-
  Contract of the reference's To6, where it looks a pointer up. Condition: the rest is a uint32.
-/
import Derived.Test.YtcppckpkiloilaaO
namespace Go.Proofs.Ytcppckpkiloilaa
open Go.RowKit
set_option linter.unusedSimpArgs false

def tp (q : Nat) : Int := ([0, 1, 4, 4, -1, -1, -1, -1, 7, 6, -1, -1, 8, 8, 8, 8, 24, 24, 24, 24] : List Int).getD q 0
abbrev tpA : Array Value := #[.int .i64 0, .int .i64 1, .int .i64 4, .int .i64 4, .int .i64 (-1), .int .i64 (-1), .int .i64 (-1), .int .i64 (-1), .int .i64 7, .int .i64 6, .int .i64 (-1), .int .i64 (-1), .int .i64 8, .int .i64 8, .int .i64 8, .int .i64 8, .int .i64 24, .int .i64 24, .int .i64 24, .int .i64 24]
theorem q20 {q : Nat} (h : q < 20) : q = 0 ∨ q = 1 ∨ q = 2 ∨ q = 3 ∨ q = 4 ∨ q = 5 ∨ q = 6 ∨ q = 7 ∨ q = 8 ∨ q = 9 ∨ q = 10 ∨ q = 11 ∨ q = 12 ∨ q = 13 ∨ q = 14 ∨ q = 15 ∨ q = 16 ∨ q = 17 ∨ q = 18 ∨ q = 19 := by omega
theorem tpA_at {q : Nat} (h : q < 20) : tpA[q]? = some (.int .i64 (tp q)) := by
  rcases q20 h with rfl | rfl | rfl | rfl | rfl | rfl | rfl | rfl | rfl | rfl | rfl | rfl | rfl | rfl | rfl | rfl | rfl | rfl | rfl | rfl <;> rfl
theorem p6_tp {q : Nat} (h : q < 20) : p6 q = if tp q < 0 then none else some (tp q) := by
  rcases q20 h with rfl | rfl | rfl | rfl | rfl | rfl | rfl | rfl | rfl | rfl | rfl | rfl | rfl | rfl | rfl | rfl | rfl | rfl | rfl | rfl <;> decide
theorem tp_range {q : Nat} (h : q < 20) : -1 ≤ tp q ∧ tp q ≤ 24 := by
  rcases q20 h with rfl | rfl | rfl | rfl | rfl | rfl | rfl | rfl | rfl | rfl | rfl | rfl | rfl | rfl | rfl | rfl | rfl | rfl | rfl | rfl <;> decide
abbrev WQ (w : World) (k c r : Int) (d : ByteArray) : World := ((w.alloc (.cells #[.int .i64 k, .int .i64 c, .int .u32 r, .string d] 26)).alloc (.cells #[.int .i64 0, .int .i64 0, .int .u32 0, .string ⟨#[]⟩] 26)).alloc (.cells tpA 3)
theorem WQ_at (w : World) (k c r : Int) (d : ByteArray) {q : Nat} (h : q < 20) : (WQ w k c r d).cell? ⟨w.heap.size + 2, q, none⟩ = some (.int .i64 (tp q)) := by
  have hb : (WQ w k c r d).heap[w.heap.size + 2]? = some (.cells tpA 3) := by
    have h := (MapKept.heap_alloc ((w.alloc (.cells #[.int .i64 k, .int .i64 c, .int .u32 r, .string d] 26)).alloc (.cells #[.int .i64 0, .int .i64 0, .int .u32 0, .string ⟨#[]⟩] 26)) (.cells tpA 3)).1
    simpa using h
  exact blk_cell hb (tpA_at h)

set_option maxRecDepth 100000 in
set_option maxHeartbeats 8000000 in
theorem rto6_far (c r : Int) (d : ByteArray) (a b n p : Int) (w : World) (hs : Sides a b) (hr : 0 ≤ r) (hr' : r < 4294967296) (hc : c = 0 ∨ c = 2) (hp : r / 16777216 = p) (h20 : 20 ≤ p) :
    Calls Try.prog 15 #[msgV 12 c r d, .int .i64 a, .int .i64 b, .int .i64 n] w fun e w' => e = .returned (retM none d) ∧ Below w.heap.size w w' := by
  have c24 := fun w => rbounds_t a b w hs
  clear hs
  rcases hc with rfl | rfl
  all_goals
    go_enter Try.func15, Try.ntmps15
    go_wp2_with (first | (go_at_call 24; (with_reducible refine (c24 _).mono ?_); rintro e w1 ⟨rfl, rfl⟩))
    refine bodyPost_ret (v := retM none d) (by simp [results, Try.results15, go_sem, retM]) rfl ⟨rfl, ?_⟩
    go_grown
set_option maxRecDepth 100000 in
set_option maxHeartbeats 8000000 in
theorem rto6_no (c r : Int) (d : ByteArray) (a b n : Int) (q : Nat) (w : World) (hs : Sides a b) (hr : 0 ≤ r) (hr' : r < 4294967296) (hc : c = 0 ∨ c = 2) (hp : r / 16777216 = q) (h20 : (q : Int) < 20) (ht : tp q < 0) :
    Calls Try.prog 15 #[msgV 12 c r d, .int .i64 a, .int .i64 b, .int .i64 n] w fun e w' => e = .returned (retM none d) ∧ Below w.heap.size w w' := by
  have c24 := fun w => rbounds_t a b w hs
  clear hs
  have x0 := WQ_at w 12 0 r d (q := q) (by omega)
  have x2 := WQ_at w 12 2 r d (q := q) (by omega)
  generalize tp q = t at *
  rcases hc with rfl | rfl
  all_goals
    go_enter Try.func15, Try.ntmps15
    go_wp2_with (first | (go_at_call 24; (with_reducible refine (c24 _).mono ?_); rintro e w1 ⟨rfl, rfl⟩))
    refine bodyPost_ret (v := retM none d) (by simp [results, Try.results15, go_sem, retM]) rfl ⟨rfl, ?_⟩
    go_grown
set_option maxRecDepth 100000 in
set_option maxHeartbeats 8000000 in
theorem rto6_yes (c r : Int) (d : ByteArray) (a b n : Int) (q : Nat) (w : World) (hs : Sides a b) (hr : 0 ≤ r) (hr' : r < 4294967296) (hc : c = 0 ∨ c = 2) (hp : r / 16777216 = q) (h20 : (q : Int) < 20) (ht : 0 ≤ tp q) :
    Calls Try.prog 15 #[msgV 12 c r d, .int .i64 a, .int .i64 b, .int .i64 n] w fun e w' => e = .returned (retM (some (4, 0, tp q)) d) ∧ Below w.heap.size w w' := by
  have c24 := fun w => rbounds_t a b w hs
  clear hs
  have x0 := WQ_at w 12 0 r d (q := q) (by omega)
  have x2 := WQ_at w 12 2 r d (q := q) (by omega)
  have hr2 := tp_range (q := q) (by omega)
  generalize tp q = t at *
  obtain ⟨_, hr2⟩ := hr2
  rcases hc with rfl | rfl
  all_goals
    go_enter Try.func15, Try.ntmps15
    go_wp2_with (first | (go_at_call 24; (with_reducible refine (c24 _).mono ?_); rintro e w1 ⟨rfl, rfl⟩))
    go_region
    all_goals
      go_wp2
      refine bodyPost_ret (v := .tuple #[.agg #[.int .i64 4, .int .i64 0, .int .u32 t, .string d], .bool true]) (by simp [results, Try.results15, go_sem]) rfl ⟨rfl, ?_⟩
      go_grown
end Go.Proofs.Ytcppckpkiloilaa
