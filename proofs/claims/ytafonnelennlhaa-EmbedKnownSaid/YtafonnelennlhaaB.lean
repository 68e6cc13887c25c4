/-
  Contract of embed.places: where an address' bytes stand. Condition: the length is one that may be.
-/
import Derived.Test.YtafonnelennlhaaA
namespace Go.Proofs.Ytafonnelennlhaa
open Go.RowKit

set_option maxHeartbeats 4000000 in
theorem places_32 (P : Nat → Int) (w : World) : Calls Try.prog 21 #[net P 32] w fun e w' => e = .returned (.agg #[.int .i64 4, .int .i64 5, .int .i64 6, .int .i64 7]) ∧ Below w.heap.size w w' := by
  go_enter Try.func21, Try.ntmps21
  go_wp2
  go_rounds 5
  refine bodyPost_ret (v := .agg #[.int .i64 4, .int .i64 5, .int .i64 6, .int .i64 7]) (by simp [results, Try.results21, go_sem]) rfl ⟨rfl, ?_⟩
  go_grown
set_option maxHeartbeats 4000000 in
theorem places_40 (P : Nat → Int) (w : World) : Calls Try.prog 21 #[net P 40] w fun e w' => e = .returned (.agg #[.int .i64 5, .int .i64 6, .int .i64 7, .int .i64 9]) ∧ Below w.heap.size w w' := by
  go_enter Try.func21, Try.ntmps21
  go_wp2
  go_rounds 5
  refine bodyPost_ret (v := .agg #[.int .i64 5, .int .i64 6, .int .i64 7, .int .i64 9]) (by simp [results, Try.results21, go_sem]) rfl ⟨rfl, ?_⟩
  go_grown
set_option maxHeartbeats 4000000 in
theorem places_48 (P : Nat → Int) (w : World) : Calls Try.prog 21 #[net P 48] w fun e w' => e = .returned (.agg #[.int .i64 6, .int .i64 7, .int .i64 9, .int .i64 10]) ∧ Below w.heap.size w w' := by
  go_enter Try.func21, Try.ntmps21
  go_wp2
  go_rounds 5
  refine bodyPost_ret (v := .agg #[.int .i64 6, .int .i64 7, .int .i64 9, .int .i64 10]) (by simp [results, Try.results21, go_sem]) rfl ⟨rfl, ?_⟩
  go_grown
set_option maxHeartbeats 4000000 in
theorem places_56 (P : Nat → Int) (w : World) : Calls Try.prog 21 #[net P 56] w fun e w' => e = .returned (.agg #[.int .i64 7, .int .i64 9, .int .i64 10, .int .i64 11]) ∧ Below w.heap.size w w' := by
  go_enter Try.func21, Try.ntmps21
  go_wp2
  go_rounds 5
  refine bodyPost_ret (v := .agg #[.int .i64 7, .int .i64 9, .int .i64 10, .int .i64 11]) (by simp [results, Try.results21, go_sem]) rfl ⟨rfl, ?_⟩
  go_grown
set_option maxHeartbeats 4000000 in
theorem places_64 (P : Nat → Int) (w : World) : Calls Try.prog 21 #[net P 64] w fun e w' => e = .returned (.agg #[.int .i64 9, .int .i64 10, .int .i64 11, .int .i64 12]) ∧ Below w.heap.size w w' := by
  go_enter Try.func21, Try.ntmps21
  go_wp2
  go_rounds 5
  refine bodyPost_ret (v := .agg #[.int .i64 9, .int .i64 10, .int .i64 11, .int .i64 12]) (by simp [results, Try.results21, go_sem]) rfl ⟨rfl, ?_⟩
  go_grown
set_option maxHeartbeats 4000000 in
theorem places_96 (P : Nat → Int) (w : World) : Calls Try.prog 21 #[net P 96] w fun e w' => e = .returned (.agg #[.int .i64 12, .int .i64 13, .int .i64 14, .int .i64 15]) ∧ Below w.heap.size w w' := by
  go_enter Try.func21, Try.ntmps21
  go_wp2
  go_rounds 5
  refine bodyPost_ret (v := .agg #[.int .i64 12, .int .i64 13, .int .i64 14, .int .i64 15]) (by simp [results, Try.results21, go_sem]) rfl ⟨rfl, ?_⟩
  go_grown
end Go.Proofs.Ytafonnelennlhaa
