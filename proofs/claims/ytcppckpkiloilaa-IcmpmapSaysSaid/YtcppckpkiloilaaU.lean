/-
  Contract of the reference's To4 (pointers). Conditions stand in each statement.
-/
import Derived.Test.YtcppckpkiloilaaR
namespace Go.Proofs.Ytcppckpkiloilaa
open Go.RowKit
set_option linter.unusedVariables false
set_option linter.unusedSimpArgs false


set_option maxRecDepth 100000 in
set_option maxHeartbeats 4000000 in
theorem rto4_p0 (k c : Int) (d : ByteArray) (a b : Int) (w : World) (hs : Sides a b) (h4 : (k == 4) = true) (hk2 : (k == 2) = false) (h0 : (c == 0) = true) :
    Calls Try.prog 16 #[msgV k c 0 d, .int .i64 a, .int .i64 b] w fun e w' => e = .returned (retM (some (12, 0, 0)) d) ∧ Below w.heap.size w w' := by
  have c24 := fun w => rbounds_t a b w hs
  clear hs
  go_enter Try.func16, Try.ntmps16
  go_upto_region 1 with fail
  have M0 := Mem.two w 26 26 #[.int .i64 k, .int .i64 c, .int .u32 0, .string d] #[.int .i64 0, .int .i64 0, .int .u32 0, .string ⟨#[]⟩]
  refine wp_region_lit ?_
  refine lv (by kernel_rfl) (some 13) rfl (v := ?_) ?_ ?_
  rotate_left
  · go_simp; try with_reducible rfl
  try simp only [Act.put, List.setIfInBounds_toArray, List.set_cons_zero, List.set_cons_succ]
  refine lv (by kernel_rfl) (some 14) rfl (v := ?_) ?_ ?_
  rotate_left
  · go_simp; try with_reducible rfl
  try simp only [Act.put, List.setIfInBounds_toArray, List.set_cons_zero, List.set_cons_succ]
  refine l_same (by kernel_rfl) (some 15) rfl (c24 _) (by kernel_rfl) ?_
  try simp only [Act.put, List.setIfInBounds_toArray, List.set_cons_zero, List.set_cons_succ]
  refine lv (by kernel_rfl) (some 16) rfl (v := ?_) ?_ ?_
  rotate_left
  · go_simp; try with_reducible rfl
  try simp only [Act.put, List.setIfInBounds_toArray, List.set_cons_zero, List.set_cons_succ]
  refine wpList_nil ?_
  go_upto_region 3 with fail
  refine wp_region_lit ?_
  refine lv (by kernel_rfl) (some 18) rfl (v := ?_) ?_ ?_
  rotate_left
  · go_simp; try with_reducible rfl
  try simp only [Act.put, List.setIfInBounds_toArray, List.set_cons_zero, List.set_cons_succ]
  refine ly M0 (some 19) rfl (yi_cell 0 3 (.tmp 18) rfl (by kernel_rfl) rfl _ rfl (.int .i64 k) Try.underlying3 rfl rfl) ?_
  try simp only [Act.put, List.setIfInBounds_toArray, List.set_cons_zero, List.set_cons_succ]
  refine lv (by kernel_rfl) (some 20) rfl (v := ?_) ?_ ?_
  rotate_left
  · go_simp; try with_reducible rfl
  try simp only [Act.put, List.setIfInBounds_toArray, List.set_cons_zero, List.set_cons_succ]
  refine lv (by kernel_rfl) (some 21) rfl (v := ?_) ?_ ?_
  rotate_left
  · go_simp; try with_reducible rfl
  try simp only [Act.put, List.setIfInBounds_toArray, List.set_cons_zero, List.set_cons_succ]
  with_reducible refine lu (by kernel_rfl) (some 22) rfl ?_
  try simp only [Act.put, List.setIfInBounds_toArray, List.set_cons_zero, List.set_cons_succ]
  with_reducible refine lu (by kernel_rfl) (some 23) rfl ?_
  try simp only [Act.put, List.setIfInBounds_toArray, List.set_cons_zero, List.set_cons_succ]
  with_reducible refine lu (by kernel_rfl) (some 24) rfl ?_
  try simp only [Act.put, List.setIfInBounds_toArray, List.set_cons_zero, List.set_cons_succ]
  refine lv (by kernel_rfl) (some 25) rfl (v := ?_) ?_ ?_
  rotate_left
  · go_simp; try with_reducible rfl
  try simp only [Act.put, List.setIfInBounds_toArray, List.set_cons_zero, List.set_cons_succ]
  refine wpList_nil ?_
  go_upto_region 14 with fail
  refine wp_region_lit ?_
  refine lv (by kernel_rfl) (some 49) rfl (v := ?_) ?_ ?_
  rotate_left
  · go_simp; try with_reducible rfl
  try simp only [Act.put, List.setIfInBounds_toArray, List.set_cons_zero, List.set_cons_succ]
  refine ly M0 (some 50) rfl (yi_cell 0 3 (.tmp 49) rfl (by kernel_rfl) rfl _ rfl (.int .i64 k) Try.underlying3 rfl rfl) ?_
  try simp only [Act.put, List.setIfInBounds_toArray, List.set_cons_zero, List.set_cons_succ]
  refine lv (by kernel_rfl) (some 51) rfl (v := ?_) ?_ ?_
  rotate_left
  · go_simp; try with_reducible rfl
  try simp only [Act.put, List.setIfInBounds_toArray, List.set_cons_zero, List.set_cons_succ]
  refine lv (by kernel_rfl) (some 52) rfl (v := ?_) ?_ ?_
  rotate_left
  · go_simp; try with_reducible rfl
  try simp only [Act.put, List.setIfInBounds_toArray, List.set_cons_zero, List.set_cons_succ]
  refine lv (by kernel_rfl) (some 53) rfl (v := ?_) ?_ ?_
  rotate_left
  · go_simp; try with_reducible rfl
  try simp only [Act.put, List.setIfInBounds_toArray, List.set_cons_zero, List.set_cons_succ]
  refine ly M0 (some 54) rfl (yi_cell 0 3 (.tmp 53) rfl (by kernel_rfl) rfl _ rfl (.int .i64 c) Try.underlying3 rfl rfl) ?_
  try simp only [Act.put, List.setIfInBounds_toArray, List.set_cons_zero, List.set_cons_succ]
  refine lv (by kernel_rfl) (some 55) rfl (v := ?_) ?_ ?_
  rotate_left
  · go_simp; try with_reducible rfl
  try simp only [Act.put, List.setIfInBounds_toArray, List.set_cons_zero, List.set_cons_succ]
  refine lv (by kernel_rfl) (some 56) rfl (v := ?_) ?_ ?_
  rotate_left
  · go_simp; try with_reducible rfl
  try simp only [Act.put, List.setIfInBounds_toArray, List.set_cons_zero, List.set_cons_succ]
  refine wpList_nil ?_
  go_upto_region 15 with fail
  refine wp_region_lit ?_
  refine lv (by kernel_rfl) (some 9) rfl (v := ?_) ?_ ?_
  rotate_left
  · go_simp; (try simp only [IntKind.wrap_u32, IntKind.wrap_i64, Int.reduceAdd, Int.reduceSub, Int.reduceMul, Int.reduceMod, Int.reducePow, Int.reduceNeg]); try with_reducible rfl
  try simp only [Act.put, List.setIfInBounds_toArray, List.set_cons_zero, List.set_cons_succ]
  refine wpList_nil ?_
  go_upto_region 16 with fail
  refine wp_region_lit ?_
  refine lv (by kernel_rfl) (some 57) rfl (v := ?_) ?_ ?_
  rotate_left
  · go_simp; (try simp only [IntKind.wrap_u32, IntKind.wrap_i64, Int.reduceAdd, Int.reduceSub, Int.reduceMul, Int.reduceMod, Int.reducePow, Int.reduceNeg]); try with_reducible rfl
  try simp only [Act.put, List.setIfInBounds_toArray, List.set_cons_zero, List.set_cons_succ]
  refine ly M0 (some 58) rfl (yi_cell 0 24 (.tmp 57) rfl (by kernel_rfl) rfl _ rfl (.int .u32 0) Try.underlying24 rfl rfl) ?_
  try simp only [Act.put, List.setIfInBounds_toArray, List.set_cons_zero, List.set_cons_succ]
  refine lv (by kernel_rfl) (some 59) rfl (v := ?_) ?_ ?_
  rotate_left
  · go_simp; (try simp only [IntKind.wrap_u32, IntKind.wrap_i64, Int.reduceAdd, Int.reduceSub, Int.reduceMul, Int.reduceMod, Int.reducePow, Int.reduceNeg]); try with_reducible rfl
  try simp only [Act.put, List.setIfInBounds_toArray, List.set_cons_zero, List.set_cons_succ]
  refine wpList_nil ?_
  go_upto_region 17 with fail
  refine wp_region_lit ?_
  refine lv (by kernel_rfl) (some 60) rfl (v := ?_) ?_ ?_
  rotate_left
  · go_simp; (try simp only [IntKind.wrap_u32, IntKind.wrap_i64, Int.reduceAdd, Int.reduceSub, Int.reduceMul, Int.reduceMod, Int.reducePow, Int.reduceNeg]); try with_reducible rfl
  try simp only [Act.put, List.setIfInBounds_toArray, List.set_cons_zero, List.set_cons_succ]
  refine ly M0 (some 61) rfl (yi_cell 0 24 (.tmp 60) rfl (by kernel_rfl) rfl _ rfl (.int .u32 0) Try.underlying24 rfl rfl) ?_
  try simp only [Act.put, List.setIfInBounds_toArray, List.set_cons_zero, List.set_cons_succ]
  refine lv (by kernel_rfl) (some 62) rfl (v := ?_) ?_ ?_
  rotate_left
  · go_simp; (try simp only [IntKind.wrap_u32, IntKind.wrap_i64, Int.reduceAdd, Int.reduceSub, Int.reduceMul, Int.reduceMod, Int.reducePow, Int.reduceNeg]); try with_reducible rfl
  try simp only [Act.put, List.setIfInBounds_toArray, List.set_cons_zero, List.set_cons_succ]
  refine lv (by kernel_rfl) (some 9) rfl (v := ?_) ?_ ?_
  rotate_left
  · go_simp; (try simp only [IntKind.wrap_u32, IntKind.wrap_i64, Int.reduceAdd, Int.reduceSub, Int.reduceMul, Int.reduceMod, Int.reducePow, Int.reduceNeg]); try with_reducible rfl
  try simp only [Act.put, List.setIfInBounds_toArray, List.set_cons_zero, List.set_cons_succ]
  refine wpList_nil ?_
  go_upto_region 28 with fail
  refine wp_region_lit ?_
  refine lv (by kernel_rfl) (some 93) rfl (v := ?_) ?_ ?_
  rotate_left
  · go_simp; (try simp only [IntKind.wrap_u32, IntKind.wrap_i64, Int.reduceAdd, Int.reduceSub, Int.reduceMul, Int.reduceMod, Int.reducePow, Int.reduceNeg]); try with_reducible rfl
  try simp only [Act.put, List.setIfInBounds_toArray, List.set_cons_zero, List.set_cons_succ]
  refine lv (by kernel_rfl) (some 94) rfl (v := ?_) ?_ ?_
  rotate_left
  · go_simp; (try simp only [IntKind.wrap_u32, IntKind.wrap_i64, Int.reduceAdd, Int.reduceSub, Int.reduceMul, Int.reduceMod, Int.reducePow, Int.reduceNeg]); try with_reducible rfl
  try simp only [Act.put, List.setIfInBounds_toArray, List.set_cons_zero, List.set_cons_succ]
  refine wpList_nil ?_
  go_upto_region 30 with fail
  refine wp_region_lit ?_
  refine lv (by kernel_rfl) (some 96) rfl (v := ?_) ?_ ?_
  rotate_left
  · go_simp; (try simp only [IntKind.wrap_u32, IntKind.wrap_i64, Int.reduceAdd, Int.reduceSub, Int.reduceMul, Int.reduceMod, Int.reducePow, Int.reduceNeg]); try with_reducible rfl
  try simp only [Act.put, List.setIfInBounds_toArray, List.set_cons_zero, List.set_cons_succ]
  refine lv (by kernel_rfl) (some 97) rfl (v := ?_) ?_ ?_
  rotate_left
  · go_simp; (try simp only [IntKind.wrap_u32, IntKind.wrap_i64, Int.reduceAdd, Int.reduceSub, Int.reduceMul, Int.reduceMod, Int.reducePow, Int.reduceNeg]); try with_reducible rfl
  try simp only [Act.put, List.setIfInBounds_toArray, List.set_cons_zero, List.set_cons_succ]
  refine lv (by kernel_rfl) (some 98) rfl (v := ?_) ?_ ?_
  rotate_left
  · go_simp; (try simp only [IntKind.wrap_u32, IntKind.wrap_i64, Int.reduceAdd, Int.reduceSub, Int.reduceMul, Int.reduceMod, Int.reducePow, Int.reduceNeg]); try with_reducible rfl
  try simp only [Act.put, List.setIfInBounds_toArray, List.set_cons_zero, List.set_cons_succ]
  refine lv (by kernel_rfl) (some 99) rfl (v := ?_) ?_ ?_
  rotate_left
  · go_simp; (try simp only [IntKind.wrap_u32, IntKind.wrap_i64, Int.reduceAdd, Int.reduceSub, Int.reduceMul, Int.reduceMod, Int.reducePow, Int.reduceNeg]); try with_reducible rfl
  try simp only [Act.put, List.setIfInBounds_toArray, List.set_cons_zero, List.set_cons_succ]
  refine ly M0 (some 100) rfl (yi_cell 0 9 (.tmp 99) rfl (by kernel_rfl) rfl _ rfl (.string d) Try.underlying9 rfl rfl) ?_
  try simp only [Act.put, List.setIfInBounds_toArray, List.set_cons_zero, List.set_cons_succ]
  refine lv (by kernel_rfl) (some 101) rfl (v := ?_) ?_ ?_
  rotate_left
  · go_simp; (try simp only [IntKind.wrap_u32, IntKind.wrap_i64, Int.reduceAdd, Int.reduceSub, Int.reduceMul, Int.reduceMod, Int.reducePow, Int.reduceNeg]); try with_reducible rfl
  try simp only [Act.put, List.setIfInBounds_toArray, List.set_cons_zero, List.set_cons_succ]
  refine l_store M0 1 (by kernel_rfl) 26 (.tmp 6) _ rfl rfl rfl rfl _ rfl (by kernel_rfl) (by rfl) (by kernel_rfl) _ rfl (fun s1 M1 => ?_)
  clear M0
  try simp only [List.cons_append, List.nil_append, List.set_cons_zero, List.set_cons_succ] at M1
  try simp only [Act.put, List.setIfInBounds_toArray, List.set_cons_zero, List.set_cons_succ]
  refine lv (by kernel_rfl) (some 7) rfl (v := ?_) ?_ ?_
  rotate_left
  · go_simp; (try simp only [IntKind.wrap_u32, IntKind.wrap_i64, Int.reduceAdd, Int.reduceSub, Int.reduceMul, Int.reduceMod, Int.reducePow, Int.reduceNeg]); try with_reducible rfl
  try simp only [Act.put, List.setIfInBounds_toArray, List.set_cons_zero, List.set_cons_succ]
  refine wpList_nil ?_
  go_wp2_with fail
  exact bodyPost_ret (v := retM (some (12, 0, 0)) d) (results_cell_tmp rfl (M1.row (i := 1) rfl) _ rfl _ rfl Try.underlying26 rfl (by kernel_rfl)) rfl ⟨rfl, M1.below⟩
set_option maxRecDepth 100000 in
set_option maxHeartbeats 4000000 in
theorem rto4_p1 (k c : Int) (d : ByteArray) (a b : Int) (w : World) (hs : Sides a b) (h4 : (k == 4) = true) (hk2 : (k == 2) = false) (h0 : (c == 0) = true) :
    Calls Try.prog 16 #[msgV k c 1 d, .int .i64 a, .int .i64 b] w fun e w' => e = .returned (retM (some (12, 0, 16777216)) d) ∧ Below w.heap.size w w' := by
  have c24 := fun w => rbounds_t a b w hs
  clear hs
  go_enter Try.func16, Try.ntmps16
  go_upto_region 1 with fail
  have M0 := Mem.two w 26 26 #[.int .i64 k, .int .i64 c, .int .u32 1, .string d] #[.int .i64 0, .int .i64 0, .int .u32 0, .string ⟨#[]⟩]
  refine wp_region_lit ?_
  refine lv (by kernel_rfl) (some 13) rfl (v := ?_) ?_ ?_
  rotate_left
  · go_simp; try with_reducible rfl
  try simp only [Act.put, List.setIfInBounds_toArray, List.set_cons_zero, List.set_cons_succ]
  refine lv (by kernel_rfl) (some 14) rfl (v := ?_) ?_ ?_
  rotate_left
  · go_simp; try with_reducible rfl
  try simp only [Act.put, List.setIfInBounds_toArray, List.set_cons_zero, List.set_cons_succ]
  refine l_same (by kernel_rfl) (some 15) rfl (c24 _) (by kernel_rfl) ?_
  try simp only [Act.put, List.setIfInBounds_toArray, List.set_cons_zero, List.set_cons_succ]
  refine lv (by kernel_rfl) (some 16) rfl (v := ?_) ?_ ?_
  rotate_left
  · go_simp; try with_reducible rfl
  try simp only [Act.put, List.setIfInBounds_toArray, List.set_cons_zero, List.set_cons_succ]
  refine wpList_nil ?_
  go_upto_region 3 with fail
  refine wp_region_lit ?_
  refine lv (by kernel_rfl) (some 18) rfl (v := ?_) ?_ ?_
  rotate_left
  · go_simp; try with_reducible rfl
  try simp only [Act.put, List.setIfInBounds_toArray, List.set_cons_zero, List.set_cons_succ]
  refine ly M0 (some 19) rfl (yi_cell 0 3 (.tmp 18) rfl (by kernel_rfl) rfl _ rfl (.int .i64 k) Try.underlying3 rfl rfl) ?_
  try simp only [Act.put, List.setIfInBounds_toArray, List.set_cons_zero, List.set_cons_succ]
  refine lv (by kernel_rfl) (some 20) rfl (v := ?_) ?_ ?_
  rotate_left
  · go_simp; try with_reducible rfl
  try simp only [Act.put, List.setIfInBounds_toArray, List.set_cons_zero, List.set_cons_succ]
  refine lv (by kernel_rfl) (some 21) rfl (v := ?_) ?_ ?_
  rotate_left
  · go_simp; try with_reducible rfl
  try simp only [Act.put, List.setIfInBounds_toArray, List.set_cons_zero, List.set_cons_succ]
  with_reducible refine lu (by kernel_rfl) (some 22) rfl ?_
  try simp only [Act.put, List.setIfInBounds_toArray, List.set_cons_zero, List.set_cons_succ]
  with_reducible refine lu (by kernel_rfl) (some 23) rfl ?_
  try simp only [Act.put, List.setIfInBounds_toArray, List.set_cons_zero, List.set_cons_succ]
  with_reducible refine lu (by kernel_rfl) (some 24) rfl ?_
  try simp only [Act.put, List.setIfInBounds_toArray, List.set_cons_zero, List.set_cons_succ]
  refine lv (by kernel_rfl) (some 25) rfl (v := ?_) ?_ ?_
  rotate_left
  · go_simp; try with_reducible rfl
  try simp only [Act.put, List.setIfInBounds_toArray, List.set_cons_zero, List.set_cons_succ]
  refine wpList_nil ?_
  go_upto_region 14 with fail
  refine wp_region_lit ?_
  refine lv (by kernel_rfl) (some 49) rfl (v := ?_) ?_ ?_
  rotate_left
  · go_simp; try with_reducible rfl
  try simp only [Act.put, List.setIfInBounds_toArray, List.set_cons_zero, List.set_cons_succ]
  refine ly M0 (some 50) rfl (yi_cell 0 3 (.tmp 49) rfl (by kernel_rfl) rfl _ rfl (.int .i64 k) Try.underlying3 rfl rfl) ?_
  try simp only [Act.put, List.setIfInBounds_toArray, List.set_cons_zero, List.set_cons_succ]
  refine lv (by kernel_rfl) (some 51) rfl (v := ?_) ?_ ?_
  rotate_left
  · go_simp; try with_reducible rfl
  try simp only [Act.put, List.setIfInBounds_toArray, List.set_cons_zero, List.set_cons_succ]
  refine lv (by kernel_rfl) (some 52) rfl (v := ?_) ?_ ?_
  rotate_left
  · go_simp; try with_reducible rfl
  try simp only [Act.put, List.setIfInBounds_toArray, List.set_cons_zero, List.set_cons_succ]
  refine lv (by kernel_rfl) (some 53) rfl (v := ?_) ?_ ?_
  rotate_left
  · go_simp; try with_reducible rfl
  try simp only [Act.put, List.setIfInBounds_toArray, List.set_cons_zero, List.set_cons_succ]
  refine ly M0 (some 54) rfl (yi_cell 0 3 (.tmp 53) rfl (by kernel_rfl) rfl _ rfl (.int .i64 c) Try.underlying3 rfl rfl) ?_
  try simp only [Act.put, List.setIfInBounds_toArray, List.set_cons_zero, List.set_cons_succ]
  refine lv (by kernel_rfl) (some 55) rfl (v := ?_) ?_ ?_
  rotate_left
  · go_simp; try with_reducible rfl
  try simp only [Act.put, List.setIfInBounds_toArray, List.set_cons_zero, List.set_cons_succ]
  refine lv (by kernel_rfl) (some 56) rfl (v := ?_) ?_ ?_
  rotate_left
  · go_simp; try with_reducible rfl
  try simp only [Act.put, List.setIfInBounds_toArray, List.set_cons_zero, List.set_cons_succ]
  refine wpList_nil ?_
  go_upto_region 15 with fail
  refine wp_region_lit ?_
  refine lv (by kernel_rfl) (some 9) rfl (v := ?_) ?_ ?_
  rotate_left
  · go_simp; (try simp only [IntKind.wrap_u32, IntKind.wrap_i64, Int.reduceAdd, Int.reduceSub, Int.reduceMul, Int.reduceMod, Int.reducePow, Int.reduceNeg]); try with_reducible rfl
  try simp only [Act.put, List.setIfInBounds_toArray, List.set_cons_zero, List.set_cons_succ]
  refine wpList_nil ?_
  go_upto_region 16 with fail
  refine wp_region_lit ?_
  refine lv (by kernel_rfl) (some 57) rfl (v := ?_) ?_ ?_
  rotate_left
  · go_simp; (try simp only [IntKind.wrap_u32, IntKind.wrap_i64, Int.reduceAdd, Int.reduceSub, Int.reduceMul, Int.reduceMod, Int.reducePow, Int.reduceNeg]); try with_reducible rfl
  try simp only [Act.put, List.setIfInBounds_toArray, List.set_cons_zero, List.set_cons_succ]
  refine ly M0 (some 58) rfl (yi_cell 0 24 (.tmp 57) rfl (by kernel_rfl) rfl _ rfl (.int .u32 1) Try.underlying24 rfl rfl) ?_
  try simp only [Act.put, List.setIfInBounds_toArray, List.set_cons_zero, List.set_cons_succ]
  refine lv (by kernel_rfl) (some 59) rfl (v := ?_) ?_ ?_
  rotate_left
  · go_simp; (try simp only [IntKind.wrap_u32, IntKind.wrap_i64, Int.reduceAdd, Int.reduceSub, Int.reduceMul, Int.reduceMod, Int.reducePow, Int.reduceNeg]); try with_reducible rfl
  try simp only [Act.put, List.setIfInBounds_toArray, List.set_cons_zero, List.set_cons_succ]
  refine wpList_nil ?_
  go_upto_region 17 with fail
  refine wp_region_lit ?_
  refine lv (by kernel_rfl) (some 60) rfl (v := ?_) ?_ ?_
  rotate_left
  · go_simp; (try simp only [IntKind.wrap_u32, IntKind.wrap_i64, Int.reduceAdd, Int.reduceSub, Int.reduceMul, Int.reduceMod, Int.reducePow, Int.reduceNeg]); try with_reducible rfl
  try simp only [Act.put, List.setIfInBounds_toArray, List.set_cons_zero, List.set_cons_succ]
  refine ly M0 (some 61) rfl (yi_cell 0 24 (.tmp 60) rfl (by kernel_rfl) rfl _ rfl (.int .u32 1) Try.underlying24 rfl rfl) ?_
  try simp only [Act.put, List.setIfInBounds_toArray, List.set_cons_zero, List.set_cons_succ]
  refine lv (by kernel_rfl) (some 62) rfl (v := ?_) ?_ ?_
  rotate_left
  · go_simp; (try simp only [IntKind.wrap_u32, IntKind.wrap_i64, Int.reduceAdd, Int.reduceSub, Int.reduceMul, Int.reduceMod, Int.reducePow, Int.reduceNeg]); try with_reducible rfl
  try simp only [Act.put, List.setIfInBounds_toArray, List.set_cons_zero, List.set_cons_succ]
  refine lv (by kernel_rfl) (some 9) rfl (v := ?_) ?_ ?_
  rotate_left
  · go_simp; (try simp only [IntKind.wrap_u32, IntKind.wrap_i64, Int.reduceAdd, Int.reduceSub, Int.reduceMul, Int.reduceMod, Int.reducePow, Int.reduceNeg]); try with_reducible rfl
  try simp only [Act.put, List.setIfInBounds_toArray, List.set_cons_zero, List.set_cons_succ]
  refine wpList_nil ?_
  go_upto_region 28 with fail
  refine wp_region_lit ?_
  refine lv (by kernel_rfl) (some 93) rfl (v := ?_) ?_ ?_
  rotate_left
  · go_simp; (try simp only [IntKind.wrap_u32, IntKind.wrap_i64, Int.reduceAdd, Int.reduceSub, Int.reduceMul, Int.reduceMod, Int.reducePow, Int.reduceNeg]); try with_reducible rfl
  try simp only [Act.put, List.setIfInBounds_toArray, List.set_cons_zero, List.set_cons_succ]
  refine lv (by kernel_rfl) (some 94) rfl (v := ?_) ?_ ?_
  rotate_left
  · go_simp; (try simp only [IntKind.wrap_u32, IntKind.wrap_i64, Int.reduceAdd, Int.reduceSub, Int.reduceMul, Int.reduceMod, Int.reducePow, Int.reduceNeg]); try with_reducible rfl
  try simp only [Act.put, List.setIfInBounds_toArray, List.set_cons_zero, List.set_cons_succ]
  refine wpList_nil ?_
  go_upto_region 30 with fail
  refine wp_region_lit ?_
  refine lv (by kernel_rfl) (some 96) rfl (v := ?_) ?_ ?_
  rotate_left
  · go_simp; (try simp only [IntKind.wrap_u32, IntKind.wrap_i64, Int.reduceAdd, Int.reduceSub, Int.reduceMul, Int.reduceMod, Int.reducePow, Int.reduceNeg]); try with_reducible rfl
  try simp only [Act.put, List.setIfInBounds_toArray, List.set_cons_zero, List.set_cons_succ]
  refine lv (by kernel_rfl) (some 97) rfl (v := ?_) ?_ ?_
  rotate_left
  · go_simp; (try simp only [IntKind.wrap_u32, IntKind.wrap_i64, Int.reduceAdd, Int.reduceSub, Int.reduceMul, Int.reduceMod, Int.reducePow, Int.reduceNeg]); try with_reducible rfl
  try simp only [Act.put, List.setIfInBounds_toArray, List.set_cons_zero, List.set_cons_succ]
  refine lv (by kernel_rfl) (some 98) rfl (v := ?_) ?_ ?_
  rotate_left
  · go_simp; (try simp only [IntKind.wrap_u32, IntKind.wrap_i64, Int.reduceAdd, Int.reduceSub, Int.reduceMul, Int.reduceMod, Int.reducePow, Int.reduceNeg]); try with_reducible rfl
  try simp only [Act.put, List.setIfInBounds_toArray, List.set_cons_zero, List.set_cons_succ]
  refine lv (by kernel_rfl) (some 99) rfl (v := ?_) ?_ ?_
  rotate_left
  · go_simp; (try simp only [IntKind.wrap_u32, IntKind.wrap_i64, Int.reduceAdd, Int.reduceSub, Int.reduceMul, Int.reduceMod, Int.reducePow, Int.reduceNeg]); try with_reducible rfl
  try simp only [Act.put, List.setIfInBounds_toArray, List.set_cons_zero, List.set_cons_succ]
  refine ly M0 (some 100) rfl (yi_cell 0 9 (.tmp 99) rfl (by kernel_rfl) rfl _ rfl (.string d) Try.underlying9 rfl rfl) ?_
  try simp only [Act.put, List.setIfInBounds_toArray, List.set_cons_zero, List.set_cons_succ]
  refine lv (by kernel_rfl) (some 101) rfl (v := ?_) ?_ ?_
  rotate_left
  · go_simp; (try simp only [IntKind.wrap_u32, IntKind.wrap_i64, Int.reduceAdd, Int.reduceSub, Int.reduceMul, Int.reduceMod, Int.reducePow, Int.reduceNeg]); try with_reducible rfl
  try simp only [Act.put, List.setIfInBounds_toArray, List.set_cons_zero, List.set_cons_succ]
  refine l_store M0 1 (by kernel_rfl) 26 (.tmp 6) _ rfl rfl rfl rfl _ rfl (by kernel_rfl) (by rfl) (by kernel_rfl) _ rfl (fun s1 M1 => ?_)
  clear M0
  try simp only [List.cons_append, List.nil_append, List.set_cons_zero, List.set_cons_succ] at M1
  try simp only [Act.put, List.setIfInBounds_toArray, List.set_cons_zero, List.set_cons_succ]
  refine lv (by kernel_rfl) (some 7) rfl (v := ?_) ?_ ?_
  rotate_left
  · go_simp; (try simp only [IntKind.wrap_u32, IntKind.wrap_i64, Int.reduceAdd, Int.reduceSub, Int.reduceMul, Int.reduceMod, Int.reducePow, Int.reduceNeg]); try with_reducible rfl
  try simp only [Act.put, List.setIfInBounds_toArray, List.set_cons_zero, List.set_cons_succ]
  refine wpList_nil ?_
  go_wp2_with fail
  exact bodyPost_ret (v := retM (some (12, 0, 16777216)) d) (results_cell_tmp rfl (M1.row (i := 1) rfl) _ rfl _ rfl Try.underlying26 rfl (by kernel_rfl)) rfl ⟨rfl, M1.below⟩
set_option maxRecDepth 100000 in
set_option maxHeartbeats 4000000 in
theorem rto4_p4 (k c r : Int) (d : ByteArray) (a b : Int) (w : World) (hs : Sides a b) (h4 : (k == 4) = true) (hk2 : (k == 2) = false) (h0 : (c == 0) = true) (hwr : IntKind.i64.wrap r = r) (l1 : ¬ r ≤ 1) (e4 : (r == 4) = true) :
    Calls Try.prog 16 #[msgV k c r d, .int .i64 a, .int .i64 b] w fun e w' => e = .returned (retM (some (12, 0, 33554432)) d) ∧ Below w.heap.size w w' := by
  have c24 := fun w => rbounds_t a b w hs
  clear hs

  go_enter Try.func16, Try.ntmps16
  go_upto_region 1 with fail
  have M0 := Mem.two w 26 26 #[.int .i64 k, .int .i64 c, .int .u32 r, .string d] #[.int .i64 0, .int .i64 0, .int .u32 0, .string ⟨#[]⟩]
  refine wp_region_lit ?_
  refine lv (by kernel_rfl) (some 13) rfl (v := ?_) ?_ ?_
  rotate_left
  · go_simp; try with_reducible rfl
  try simp only [Act.put, List.setIfInBounds_toArray, List.set_cons_zero, List.set_cons_succ]
  refine lv (by kernel_rfl) (some 14) rfl (v := ?_) ?_ ?_
  rotate_left
  · go_simp; try with_reducible rfl
  try simp only [Act.put, List.setIfInBounds_toArray, List.set_cons_zero, List.set_cons_succ]
  refine l_same (by kernel_rfl) (some 15) rfl (c24 _) (by kernel_rfl) ?_
  try simp only [Act.put, List.setIfInBounds_toArray, List.set_cons_zero, List.set_cons_succ]
  refine lv (by kernel_rfl) (some 16) rfl (v := ?_) ?_ ?_
  rotate_left
  · go_simp; try with_reducible rfl
  try simp only [Act.put, List.setIfInBounds_toArray, List.set_cons_zero, List.set_cons_succ]
  refine wpList_nil ?_
  go_upto_region 3 with fail
  refine wp_region_lit ?_
  refine lv (by kernel_rfl) (some 18) rfl (v := ?_) ?_ ?_
  rotate_left
  · go_simp; try with_reducible rfl
  try simp only [Act.put, List.setIfInBounds_toArray, List.set_cons_zero, List.set_cons_succ]
  refine ly M0 (some 19) rfl (yi_cell 0 3 (.tmp 18) rfl (by kernel_rfl) rfl _ rfl (.int .i64 k) Try.underlying3 rfl rfl) ?_
  try simp only [Act.put, List.setIfInBounds_toArray, List.set_cons_zero, List.set_cons_succ]
  refine lv (by kernel_rfl) (some 20) rfl (v := ?_) ?_ ?_
  rotate_left
  · go_simp; try with_reducible rfl
  try simp only [Act.put, List.setIfInBounds_toArray, List.set_cons_zero, List.set_cons_succ]
  refine lv (by kernel_rfl) (some 21) rfl (v := ?_) ?_ ?_
  rotate_left
  · go_simp; try with_reducible rfl
  try simp only [Act.put, List.setIfInBounds_toArray, List.set_cons_zero, List.set_cons_succ]
  with_reducible refine lu (by kernel_rfl) (some 22) rfl ?_
  try simp only [Act.put, List.setIfInBounds_toArray, List.set_cons_zero, List.set_cons_succ]
  with_reducible refine lu (by kernel_rfl) (some 23) rfl ?_
  try simp only [Act.put, List.setIfInBounds_toArray, List.set_cons_zero, List.set_cons_succ]
  with_reducible refine lu (by kernel_rfl) (some 24) rfl ?_
  try simp only [Act.put, List.setIfInBounds_toArray, List.set_cons_zero, List.set_cons_succ]
  refine lv (by kernel_rfl) (some 25) rfl (v := ?_) ?_ ?_
  rotate_left
  · go_simp; try with_reducible rfl
  try simp only [Act.put, List.setIfInBounds_toArray, List.set_cons_zero, List.set_cons_succ]
  refine wpList_nil ?_
  go_upto_region 14 with fail
  refine wp_region_lit ?_
  refine lv (by kernel_rfl) (some 49) rfl (v := ?_) ?_ ?_
  rotate_left
  · go_simp; try with_reducible rfl
  try simp only [Act.put, List.setIfInBounds_toArray, List.set_cons_zero, List.set_cons_succ]
  refine ly M0 (some 50) rfl (yi_cell 0 3 (.tmp 49) rfl (by kernel_rfl) rfl _ rfl (.int .i64 k) Try.underlying3 rfl rfl) ?_
  try simp only [Act.put, List.setIfInBounds_toArray, List.set_cons_zero, List.set_cons_succ]
  refine lv (by kernel_rfl) (some 51) rfl (v := ?_) ?_ ?_
  rotate_left
  · go_simp; try with_reducible rfl
  try simp only [Act.put, List.setIfInBounds_toArray, List.set_cons_zero, List.set_cons_succ]
  refine lv (by kernel_rfl) (some 52) rfl (v := ?_) ?_ ?_
  rotate_left
  · go_simp; try with_reducible rfl
  try simp only [Act.put, List.setIfInBounds_toArray, List.set_cons_zero, List.set_cons_succ]
  refine lv (by kernel_rfl) (some 53) rfl (v := ?_) ?_ ?_
  rotate_left
  · go_simp; try with_reducible rfl
  try simp only [Act.put, List.setIfInBounds_toArray, List.set_cons_zero, List.set_cons_succ]
  refine ly M0 (some 54) rfl (yi_cell 0 3 (.tmp 53) rfl (by kernel_rfl) rfl _ rfl (.int .i64 c) Try.underlying3 rfl rfl) ?_
  try simp only [Act.put, List.setIfInBounds_toArray, List.set_cons_zero, List.set_cons_succ]
  refine lv (by kernel_rfl) (some 55) rfl (v := ?_) ?_ ?_
  rotate_left
  · go_simp; try with_reducible rfl
  try simp only [Act.put, List.setIfInBounds_toArray, List.set_cons_zero, List.set_cons_succ]
  refine lv (by kernel_rfl) (some 56) rfl (v := ?_) ?_ ?_
  rotate_left
  · go_simp; try with_reducible rfl
  try simp only [Act.put, List.setIfInBounds_toArray, List.set_cons_zero, List.set_cons_succ]
  refine wpList_nil ?_
  go_upto_region 15 with fail
  refine wp_region_lit ?_
  refine lv (by kernel_rfl) (some 9) rfl (v := ?_) ?_ ?_
  rotate_left
  · go_simp; (try simp only [IntKind.wrap_u32, IntKind.wrap_i64, Int.reduceAdd, Int.reduceSub, Int.reduceMul, Int.reduceMod, Int.reducePow, Int.reduceNeg]); try with_reducible rfl
  try simp only [Act.put, List.setIfInBounds_toArray, List.set_cons_zero, List.set_cons_succ]
  refine wpList_nil ?_
  go_upto_region 16 with fail
  refine wp_region_lit ?_
  refine lv (by kernel_rfl) (some 57) rfl (v := ?_) ?_ ?_
  rotate_left
  · go_simp; (try simp only [IntKind.wrap_u32, IntKind.wrap_i64, Int.reduceAdd, Int.reduceSub, Int.reduceMul, Int.reduceMod, Int.reducePow, Int.reduceNeg]); try with_reducible rfl
  try simp only [Act.put, List.setIfInBounds_toArray, List.set_cons_zero, List.set_cons_succ]
  refine ly M0 (some 58) rfl (yi_cell 0 24 (.tmp 57) rfl (by kernel_rfl) rfl _ rfl (.int .u32 r) Try.underlying24 rfl rfl) ?_
  try simp only [Act.put, List.setIfInBounds_toArray, List.set_cons_zero, List.set_cons_succ]
  refine lv (by kernel_rfl) (some 59) rfl (v := ?_) ?_ ?_
  rotate_left
  · go_simp; (try simp only [IntKind.wrap_u32, IntKind.wrap_i64, Int.reduceAdd, Int.reduceSub, Int.reduceMul, Int.reduceMod, Int.reducePow, Int.reduceNeg]); try with_reducible rfl
  try simp only [Act.put, List.setIfInBounds_toArray, List.set_cons_zero, List.set_cons_succ]
  refine wpList_nil ?_
  go_upto_region 18 with fail
  refine wp_region_lit ?_
  refine lv (by kernel_rfl) (some 63) rfl (v := ?_) ?_ ?_
  rotate_left
  · go_simp; (try simp only [IntKind.wrap_u32, IntKind.wrap_i64, Int.reduceAdd, Int.reduceSub, Int.reduceMul, Int.reduceMod, Int.reducePow, Int.reduceNeg]); try with_reducible rfl
  try simp only [Act.put, List.setIfInBounds_toArray, List.set_cons_zero, List.set_cons_succ]
  refine ly M0 (some 64) rfl (yi_cell 0 24 (.tmp 63) rfl (by kernel_rfl) rfl _ rfl (.int .u32 r) Try.underlying24 rfl rfl) ?_
  try simp only [Act.put, List.setIfInBounds_toArray, List.set_cons_zero, List.set_cons_succ]
  refine lv (by kernel_rfl) (some 65) rfl (v := ?_) ?_ ?_
  rotate_left
  · go_simp; (try simp only [IntKind.wrap_u32, IntKind.wrap_i64, Int.reduceAdd, Int.reduceSub, Int.reduceMul, Int.reduceMod, Int.reducePow, Int.reduceNeg]); try with_reducible rfl
  try simp only [Act.put, List.setIfInBounds_toArray, List.set_cons_zero, List.set_cons_succ]
  refine lv (by kernel_rfl) (some 66) rfl (v := ?_) ?_ ?_
  rotate_left
  · go_simp; (try simp only [IntKind.wrap_u32, IntKind.wrap_i64, Int.reduceAdd, Int.reduceSub, Int.reduceMul, Int.reduceMod, Int.reducePow, Int.reduceNeg]); try with_reducible rfl
  try simp only [Act.put, List.setIfInBounds_toArray, List.set_cons_zero, List.set_cons_succ]
  with_reducible refine lu (by kernel_rfl) (some 67) rfl ?_
  try simp only [Act.put, List.setIfInBounds_toArray, List.set_cons_zero, List.set_cons_succ]
  with_reducible refine lu (by kernel_rfl) (some 68) rfl ?_
  try simp only [Act.put, List.setIfInBounds_toArray, List.set_cons_zero, List.set_cons_succ]
  with_reducible refine lu (by kernel_rfl) (some 69) rfl ?_
  try simp only [Act.put, List.setIfInBounds_toArray, List.set_cons_zero, List.set_cons_succ]
  refine lv (by kernel_rfl) (some 70) rfl (v := ?_) ?_ ?_
  rotate_left
  · go_simp; (try simp only [IntKind.wrap_u32, IntKind.wrap_i64, Int.reduceAdd, Int.reduceSub, Int.reduceMul, Int.reduceMod, Int.reducePow, Int.reduceNeg]); try with_reducible rfl
  try simp only [Act.put, List.setIfInBounds_toArray, List.set_cons_zero, List.set_cons_succ]
  refine wpList_nil ?_
  go_upto_region 19 with fail
  refine wp_region_lit ?_
  refine lv (by kernel_rfl) (some 9) rfl (v := ?_) ?_ ?_
  rotate_left
  · go_simp; (try simp only [IntKind.wrap_u32, IntKind.wrap_i64, Int.reduceAdd, Int.reduceSub, Int.reduceMul, Int.reduceMod, Int.reducePow, Int.reduceNeg]); try with_reducible rfl
  try simp only [Act.put, List.setIfInBounds_toArray, List.set_cons_zero, List.set_cons_succ]
  refine wpList_nil ?_
  go_upto_region 28 with fail
  refine wp_region_lit ?_
  refine lv (by kernel_rfl) (some 93) rfl (v := ?_) ?_ ?_
  rotate_left
  · go_simp; (try simp only [IntKind.wrap_u32, IntKind.wrap_i64, Int.reduceAdd, Int.reduceSub, Int.reduceMul, Int.reduceMod, Int.reducePow, Int.reduceNeg]); try with_reducible rfl
  try simp only [Act.put, List.setIfInBounds_toArray, List.set_cons_zero, List.set_cons_succ]
  refine lv (by kernel_rfl) (some 94) rfl (v := ?_) ?_ ?_
  rotate_left
  · go_simp; (try simp only [IntKind.wrap_u32, IntKind.wrap_i64, Int.reduceAdd, Int.reduceSub, Int.reduceMul, Int.reduceMod, Int.reducePow, Int.reduceNeg]); try with_reducible rfl
  try simp only [Act.put, List.setIfInBounds_toArray, List.set_cons_zero, List.set_cons_succ]
  refine wpList_nil ?_
  go_upto_region 30 with fail
  refine wp_region_lit ?_
  refine lv (by kernel_rfl) (some 96) rfl (v := ?_) ?_ ?_
  rotate_left
  · go_simp; (try simp only [IntKind.wrap_u32, IntKind.wrap_i64, Int.reduceAdd, Int.reduceSub, Int.reduceMul, Int.reduceMod, Int.reducePow, Int.reduceNeg]); try with_reducible rfl
  try simp only [Act.put, List.setIfInBounds_toArray, List.set_cons_zero, List.set_cons_succ]
  refine lv (by kernel_rfl) (some 97) rfl (v := ?_) ?_ ?_
  rotate_left
  · go_simp; (try simp only [IntKind.wrap_u32, IntKind.wrap_i64, Int.reduceAdd, Int.reduceSub, Int.reduceMul, Int.reduceMod, Int.reducePow, Int.reduceNeg]); try with_reducible rfl
  try simp only [Act.put, List.setIfInBounds_toArray, List.set_cons_zero, List.set_cons_succ]
  refine lv (by kernel_rfl) (some 98) rfl (v := ?_) ?_ ?_
  rotate_left
  · go_simp; (try simp only [IntKind.wrap_u32, IntKind.wrap_i64, Int.reduceAdd, Int.reduceSub, Int.reduceMul, Int.reduceMod, Int.reducePow, Int.reduceNeg]); try with_reducible rfl
  try simp only [Act.put, List.setIfInBounds_toArray, List.set_cons_zero, List.set_cons_succ]
  refine lv (by kernel_rfl) (some 99) rfl (v := ?_) ?_ ?_
  rotate_left
  · go_simp; (try simp only [IntKind.wrap_u32, IntKind.wrap_i64, Int.reduceAdd, Int.reduceSub, Int.reduceMul, Int.reduceMod, Int.reducePow, Int.reduceNeg]); try with_reducible rfl
  try simp only [Act.put, List.setIfInBounds_toArray, List.set_cons_zero, List.set_cons_succ]
  refine ly M0 (some 100) rfl (yi_cell 0 9 (.tmp 99) rfl (by kernel_rfl) rfl _ rfl (.string d) Try.underlying9 rfl rfl) ?_
  try simp only [Act.put, List.setIfInBounds_toArray, List.set_cons_zero, List.set_cons_succ]
  refine lv (by kernel_rfl) (some 101) rfl (v := ?_) ?_ ?_
  rotate_left
  · go_simp; (try simp only [IntKind.wrap_u32, IntKind.wrap_i64, Int.reduceAdd, Int.reduceSub, Int.reduceMul, Int.reduceMod, Int.reducePow, Int.reduceNeg]); try with_reducible rfl
  try simp only [Act.put, List.setIfInBounds_toArray, List.set_cons_zero, List.set_cons_succ]
  refine l_store M0 1 (by kernel_rfl) 26 (.tmp 6) _ rfl rfl rfl rfl _ rfl (by kernel_rfl) (by rfl) (by kernel_rfl) _ rfl (fun s1 M1 => ?_)
  clear M0
  try simp only [List.cons_append, List.nil_append, List.set_cons_zero, List.set_cons_succ] at M1
  try simp only [Act.put, List.setIfInBounds_toArray, List.set_cons_zero, List.set_cons_succ]
  refine lv (by kernel_rfl) (some 7) rfl (v := ?_) ?_ ?_
  rotate_left
  · go_simp; (try simp only [IntKind.wrap_u32, IntKind.wrap_i64, Int.reduceAdd, Int.reduceSub, Int.reduceMul, Int.reduceMod, Int.reducePow, Int.reduceNeg]); try with_reducible rfl
  try simp only [Act.put, List.setIfInBounds_toArray, List.set_cons_zero, List.set_cons_succ]
  refine wpList_nil ?_
  go_wp2_with fail
  exact bodyPost_ret (v := retM (some (12, 0, 33554432)) d) (results_cell_tmp rfl (M1.row (i := 1) rfl) _ rfl _ rfl Try.underlying26 rfl (by kernel_rfl)) rfl ⟨rfl, M1.below⟩
set_option maxRecDepth 100000 in
set_option maxHeartbeats 4000000 in
theorem rto4_p5 (k c r : Int) (d : ByteArray) (a b : Int) (w : World) (hs : Sides a b) (h4 : (k == 4) = true) (hk2 : (k == 2) = false) (h0 : (c == 0) = true) (hwr : IntKind.i64.wrap r = r) (l1 : ¬ r ≤ 1) (e4 : (r == 4) = false) (e5 : (r == 5) = true) :
    Calls Try.prog 16 #[msgV k c r d, .int .i64 a, .int .i64 b] w fun e w' => e = .returned (retM (some (12, 0, 33554432)) d) ∧ Below w.heap.size w w' := by
  have c24 := fun w => rbounds_t a b w hs
  clear hs

  go_enter Try.func16, Try.ntmps16
  go_upto_region 1 with fail
  have M0 := Mem.two w 26 26 #[.int .i64 k, .int .i64 c, .int .u32 r, .string d] #[.int .i64 0, .int .i64 0, .int .u32 0, .string ⟨#[]⟩]
  refine wp_region_lit ?_
  refine lv (by kernel_rfl) (some 13) rfl (v := ?_) ?_ ?_
  rotate_left
  · go_simp; try with_reducible rfl
  try simp only [Act.put, List.setIfInBounds_toArray, List.set_cons_zero, List.set_cons_succ]
  refine lv (by kernel_rfl) (some 14) rfl (v := ?_) ?_ ?_
  rotate_left
  · go_simp; try with_reducible rfl
  try simp only [Act.put, List.setIfInBounds_toArray, List.set_cons_zero, List.set_cons_succ]
  refine l_same (by kernel_rfl) (some 15) rfl (c24 _) (by kernel_rfl) ?_
  try simp only [Act.put, List.setIfInBounds_toArray, List.set_cons_zero, List.set_cons_succ]
  refine lv (by kernel_rfl) (some 16) rfl (v := ?_) ?_ ?_
  rotate_left
  · go_simp; try with_reducible rfl
  try simp only [Act.put, List.setIfInBounds_toArray, List.set_cons_zero, List.set_cons_succ]
  refine wpList_nil ?_
  go_upto_region 3 with fail
  refine wp_region_lit ?_
  refine lv (by kernel_rfl) (some 18) rfl (v := ?_) ?_ ?_
  rotate_left
  · go_simp; try with_reducible rfl
  try simp only [Act.put, List.setIfInBounds_toArray, List.set_cons_zero, List.set_cons_succ]
  refine ly M0 (some 19) rfl (yi_cell 0 3 (.tmp 18) rfl (by kernel_rfl) rfl _ rfl (.int .i64 k) Try.underlying3 rfl rfl) ?_
  try simp only [Act.put, List.setIfInBounds_toArray, List.set_cons_zero, List.set_cons_succ]
  refine lv (by kernel_rfl) (some 20) rfl (v := ?_) ?_ ?_
  rotate_left
  · go_simp; try with_reducible rfl
  try simp only [Act.put, List.setIfInBounds_toArray, List.set_cons_zero, List.set_cons_succ]
  refine lv (by kernel_rfl) (some 21) rfl (v := ?_) ?_ ?_
  rotate_left
  · go_simp; try with_reducible rfl
  try simp only [Act.put, List.setIfInBounds_toArray, List.set_cons_zero, List.set_cons_succ]
  with_reducible refine lu (by kernel_rfl) (some 22) rfl ?_
  try simp only [Act.put, List.setIfInBounds_toArray, List.set_cons_zero, List.set_cons_succ]
  with_reducible refine lu (by kernel_rfl) (some 23) rfl ?_
  try simp only [Act.put, List.setIfInBounds_toArray, List.set_cons_zero, List.set_cons_succ]
  with_reducible refine lu (by kernel_rfl) (some 24) rfl ?_
  try simp only [Act.put, List.setIfInBounds_toArray, List.set_cons_zero, List.set_cons_succ]
  refine lv (by kernel_rfl) (some 25) rfl (v := ?_) ?_ ?_
  rotate_left
  · go_simp; try with_reducible rfl
  try simp only [Act.put, List.setIfInBounds_toArray, List.set_cons_zero, List.set_cons_succ]
  refine wpList_nil ?_
  go_upto_region 14 with fail
  refine wp_region_lit ?_
  refine lv (by kernel_rfl) (some 49) rfl (v := ?_) ?_ ?_
  rotate_left
  · go_simp; try with_reducible rfl
  try simp only [Act.put, List.setIfInBounds_toArray, List.set_cons_zero, List.set_cons_succ]
  refine ly M0 (some 50) rfl (yi_cell 0 3 (.tmp 49) rfl (by kernel_rfl) rfl _ rfl (.int .i64 k) Try.underlying3 rfl rfl) ?_
  try simp only [Act.put, List.setIfInBounds_toArray, List.set_cons_zero, List.set_cons_succ]
  refine lv (by kernel_rfl) (some 51) rfl (v := ?_) ?_ ?_
  rotate_left
  · go_simp; try with_reducible rfl
  try simp only [Act.put, List.setIfInBounds_toArray, List.set_cons_zero, List.set_cons_succ]
  refine lv (by kernel_rfl) (some 52) rfl (v := ?_) ?_ ?_
  rotate_left
  · go_simp; try with_reducible rfl
  try simp only [Act.put, List.setIfInBounds_toArray, List.set_cons_zero, List.set_cons_succ]
  refine lv (by kernel_rfl) (some 53) rfl (v := ?_) ?_ ?_
  rotate_left
  · go_simp; try with_reducible rfl
  try simp only [Act.put, List.setIfInBounds_toArray, List.set_cons_zero, List.set_cons_succ]
  refine ly M0 (some 54) rfl (yi_cell 0 3 (.tmp 53) rfl (by kernel_rfl) rfl _ rfl (.int .i64 c) Try.underlying3 rfl rfl) ?_
  try simp only [Act.put, List.setIfInBounds_toArray, List.set_cons_zero, List.set_cons_succ]
  refine lv (by kernel_rfl) (some 55) rfl (v := ?_) ?_ ?_
  rotate_left
  · go_simp; try with_reducible rfl
  try simp only [Act.put, List.setIfInBounds_toArray, List.set_cons_zero, List.set_cons_succ]
  refine lv (by kernel_rfl) (some 56) rfl (v := ?_) ?_ ?_
  rotate_left
  · go_simp; try with_reducible rfl
  try simp only [Act.put, List.setIfInBounds_toArray, List.set_cons_zero, List.set_cons_succ]
  refine wpList_nil ?_
  go_upto_region 15 with fail
  refine wp_region_lit ?_
  refine lv (by kernel_rfl) (some 9) rfl (v := ?_) ?_ ?_
  rotate_left
  · go_simp; (try simp only [IntKind.wrap_u32, IntKind.wrap_i64, Int.reduceAdd, Int.reduceSub, Int.reduceMul, Int.reduceMod, Int.reducePow, Int.reduceNeg]); try with_reducible rfl
  try simp only [Act.put, List.setIfInBounds_toArray, List.set_cons_zero, List.set_cons_succ]
  refine wpList_nil ?_
  go_upto_region 16 with fail
  refine wp_region_lit ?_
  refine lv (by kernel_rfl) (some 57) rfl (v := ?_) ?_ ?_
  rotate_left
  · go_simp; (try simp only [IntKind.wrap_u32, IntKind.wrap_i64, Int.reduceAdd, Int.reduceSub, Int.reduceMul, Int.reduceMod, Int.reducePow, Int.reduceNeg]); try with_reducible rfl
  try simp only [Act.put, List.setIfInBounds_toArray, List.set_cons_zero, List.set_cons_succ]
  refine ly M0 (some 58) rfl (yi_cell 0 24 (.tmp 57) rfl (by kernel_rfl) rfl _ rfl (.int .u32 r) Try.underlying24 rfl rfl) ?_
  try simp only [Act.put, List.setIfInBounds_toArray, List.set_cons_zero, List.set_cons_succ]
  refine lv (by kernel_rfl) (some 59) rfl (v := ?_) ?_ ?_
  rotate_left
  · go_simp; (try simp only [IntKind.wrap_u32, IntKind.wrap_i64, Int.reduceAdd, Int.reduceSub, Int.reduceMul, Int.reduceMod, Int.reducePow, Int.reduceNeg]); try with_reducible rfl
  try simp only [Act.put, List.setIfInBounds_toArray, List.set_cons_zero, List.set_cons_succ]
  refine wpList_nil ?_
  go_upto_region 18 with fail
  refine wp_region_lit ?_
  refine lv (by kernel_rfl) (some 63) rfl (v := ?_) ?_ ?_
  rotate_left
  · go_simp; (try simp only [IntKind.wrap_u32, IntKind.wrap_i64, Int.reduceAdd, Int.reduceSub, Int.reduceMul, Int.reduceMod, Int.reducePow, Int.reduceNeg]); try with_reducible rfl
  try simp only [Act.put, List.setIfInBounds_toArray, List.set_cons_zero, List.set_cons_succ]
  refine ly M0 (some 64) rfl (yi_cell 0 24 (.tmp 63) rfl (by kernel_rfl) rfl _ rfl (.int .u32 r) Try.underlying24 rfl rfl) ?_
  try simp only [Act.put, List.setIfInBounds_toArray, List.set_cons_zero, List.set_cons_succ]
  refine lv (by kernel_rfl) (some 65) rfl (v := ?_) ?_ ?_
  rotate_left
  · go_simp; (try simp only [IntKind.wrap_u32, IntKind.wrap_i64, Int.reduceAdd, Int.reduceSub, Int.reduceMul, Int.reduceMod, Int.reducePow, Int.reduceNeg]); try with_reducible rfl
  try simp only [Act.put, List.setIfInBounds_toArray, List.set_cons_zero, List.set_cons_succ]
  refine lv (by kernel_rfl) (some 66) rfl (v := ?_) ?_ ?_
  rotate_left
  · go_simp; (try simp only [IntKind.wrap_u32, IntKind.wrap_i64, Int.reduceAdd, Int.reduceSub, Int.reduceMul, Int.reduceMod, Int.reducePow, Int.reduceNeg]); try with_reducible rfl
  try simp only [Act.put, List.setIfInBounds_toArray, List.set_cons_zero, List.set_cons_succ]
  refine lv (by kernel_rfl) (some 67) rfl (v := ?_) ?_ ?_
  rotate_left
  · go_simp; (try simp only [IntKind.wrap_u32, IntKind.wrap_i64, Int.reduceAdd, Int.reduceSub, Int.reduceMul, Int.reduceMod, Int.reducePow, Int.reduceNeg]); try with_reducible rfl
  try simp only [Act.put, List.setIfInBounds_toArray, List.set_cons_zero, List.set_cons_succ]
  refine ly M0 (some 68) rfl (yi_cell 0 24 (.tmp 67) rfl (by kernel_rfl) rfl _ rfl (.int .u32 r) Try.underlying24 rfl rfl) ?_
  try simp only [Act.put, List.setIfInBounds_toArray, List.set_cons_zero, List.set_cons_succ]
  refine lv (by kernel_rfl) (some 69) rfl (v := ?_) ?_ ?_
  rotate_left
  · go_simp; (try simp only [IntKind.wrap_u32, IntKind.wrap_i64, Int.reduceAdd, Int.reduceSub, Int.reduceMul, Int.reduceMod, Int.reducePow, Int.reduceNeg]); try with_reducible rfl
  try simp only [Act.put, List.setIfInBounds_toArray, List.set_cons_zero, List.set_cons_succ]
  refine lv (by kernel_rfl) (some 70) rfl (v := ?_) ?_ ?_
  rotate_left
  · go_simp; (try simp only [IntKind.wrap_u32, IntKind.wrap_i64, Int.reduceAdd, Int.reduceSub, Int.reduceMul, Int.reduceMod, Int.reducePow, Int.reduceNeg]); try with_reducible rfl
  try simp only [Act.put, List.setIfInBounds_toArray, List.set_cons_zero, List.set_cons_succ]
  refine wpList_nil ?_
  go_upto_region 19 with fail
  refine wp_region_lit ?_
  refine lv (by kernel_rfl) (some 9) rfl (v := ?_) ?_ ?_
  rotate_left
  · go_simp; (try simp only [IntKind.wrap_u32, IntKind.wrap_i64, Int.reduceAdd, Int.reduceSub, Int.reduceMul, Int.reduceMod, Int.reducePow, Int.reduceNeg]); try with_reducible rfl
  try simp only [Act.put, List.setIfInBounds_toArray, List.set_cons_zero, List.set_cons_succ]
  refine wpList_nil ?_
  go_upto_region 28 with fail
  refine wp_region_lit ?_
  refine lv (by kernel_rfl) (some 93) rfl (v := ?_) ?_ ?_
  rotate_left
  · go_simp; (try simp only [IntKind.wrap_u32, IntKind.wrap_i64, Int.reduceAdd, Int.reduceSub, Int.reduceMul, Int.reduceMod, Int.reducePow, Int.reduceNeg]); try with_reducible rfl
  try simp only [Act.put, List.setIfInBounds_toArray, List.set_cons_zero, List.set_cons_succ]
  refine lv (by kernel_rfl) (some 94) rfl (v := ?_) ?_ ?_
  rotate_left
  · go_simp; (try simp only [IntKind.wrap_u32, IntKind.wrap_i64, Int.reduceAdd, Int.reduceSub, Int.reduceMul, Int.reduceMod, Int.reducePow, Int.reduceNeg]); try with_reducible rfl
  try simp only [Act.put, List.setIfInBounds_toArray, List.set_cons_zero, List.set_cons_succ]
  refine wpList_nil ?_
  go_upto_region 30 with fail
  refine wp_region_lit ?_
  refine lv (by kernel_rfl) (some 96) rfl (v := ?_) ?_ ?_
  rotate_left
  · go_simp; (try simp only [IntKind.wrap_u32, IntKind.wrap_i64, Int.reduceAdd, Int.reduceSub, Int.reduceMul, Int.reduceMod, Int.reducePow, Int.reduceNeg]); try with_reducible rfl
  try simp only [Act.put, List.setIfInBounds_toArray, List.set_cons_zero, List.set_cons_succ]
  refine lv (by kernel_rfl) (some 97) rfl (v := ?_) ?_ ?_
  rotate_left
  · go_simp; (try simp only [IntKind.wrap_u32, IntKind.wrap_i64, Int.reduceAdd, Int.reduceSub, Int.reduceMul, Int.reduceMod, Int.reducePow, Int.reduceNeg]); try with_reducible rfl
  try simp only [Act.put, List.setIfInBounds_toArray, List.set_cons_zero, List.set_cons_succ]
  refine lv (by kernel_rfl) (some 98) rfl (v := ?_) ?_ ?_
  rotate_left
  · go_simp; (try simp only [IntKind.wrap_u32, IntKind.wrap_i64, Int.reduceAdd, Int.reduceSub, Int.reduceMul, Int.reduceMod, Int.reducePow, Int.reduceNeg]); try with_reducible rfl
  try simp only [Act.put, List.setIfInBounds_toArray, List.set_cons_zero, List.set_cons_succ]
  refine lv (by kernel_rfl) (some 99) rfl (v := ?_) ?_ ?_
  rotate_left
  · go_simp; (try simp only [IntKind.wrap_u32, IntKind.wrap_i64, Int.reduceAdd, Int.reduceSub, Int.reduceMul, Int.reduceMod, Int.reducePow, Int.reduceNeg]); try with_reducible rfl
  try simp only [Act.put, List.setIfInBounds_toArray, List.set_cons_zero, List.set_cons_succ]
  refine ly M0 (some 100) rfl (yi_cell 0 9 (.tmp 99) rfl (by kernel_rfl) rfl _ rfl (.string d) Try.underlying9 rfl rfl) ?_
  try simp only [Act.put, List.setIfInBounds_toArray, List.set_cons_zero, List.set_cons_succ]
  refine lv (by kernel_rfl) (some 101) rfl (v := ?_) ?_ ?_
  rotate_left
  · go_simp; (try simp only [IntKind.wrap_u32, IntKind.wrap_i64, Int.reduceAdd, Int.reduceSub, Int.reduceMul, Int.reduceMod, Int.reducePow, Int.reduceNeg]); try with_reducible rfl
  try simp only [Act.put, List.setIfInBounds_toArray, List.set_cons_zero, List.set_cons_succ]
  refine l_store M0 1 (by kernel_rfl) 26 (.tmp 6) _ rfl rfl rfl rfl _ rfl (by kernel_rfl) (by rfl) (by kernel_rfl) _ rfl (fun s1 M1 => ?_)
  clear M0
  try simp only [List.cons_append, List.nil_append, List.set_cons_zero, List.set_cons_succ] at M1
  try simp only [Act.put, List.setIfInBounds_toArray, List.set_cons_zero, List.set_cons_succ]
  refine lv (by kernel_rfl) (some 7) rfl (v := ?_) ?_ ?_
  rotate_left
  · go_simp; (try simp only [IntKind.wrap_u32, IntKind.wrap_i64, Int.reduceAdd, Int.reduceSub, Int.reduceMul, Int.reduceMod, Int.reducePow, Int.reduceNeg]); try with_reducible rfl
  try simp only [Act.put, List.setIfInBounds_toArray, List.set_cons_zero, List.set_cons_succ]
  refine wpList_nil ?_
  go_wp2_with fail
  exact bodyPost_ret (v := retM (some (12, 0, 33554432)) d) (results_cell_tmp rfl (M1.row (i := 1) rfl) _ rfl _ rfl Try.underlying26 rfl (by kernel_rfl)) rfl ⟨rfl, M1.below⟩
set_option maxRecDepth 100000 in
set_option maxHeartbeats 4000000 in
theorem rto4_p6 (k c r : Int) (d : ByteArray) (a b : Int) (w : World) (hs : Sides a b) (h4 : (k == 4) = true) (hk2 : (k == 2) = false) (h0 : (c == 0) = true) (hwr : IntKind.i64.wrap r = r) (l1 : ¬ r ≤ 1) (e4 : (r == 4) = false) (e5 : (r == 5) = false) (e6 : (r == 6) = true) :
    Calls Try.prog 16 #[msgV k c r d, .int .i64 a, .int .i64 b] w fun e w' => e = .returned (retM (some (12, 0, 150994944)) d) ∧ Below w.heap.size w w' := by
  have c24 := fun w => rbounds_t a b w hs
  clear hs

  go_enter Try.func16, Try.ntmps16
  go_upto_region 1 with fail
  have M0 := Mem.two w 26 26 #[.int .i64 k, .int .i64 c, .int .u32 r, .string d] #[.int .i64 0, .int .i64 0, .int .u32 0, .string ⟨#[]⟩]
  refine wp_region_lit ?_
  refine lv (by kernel_rfl) (some 13) rfl (v := ?_) ?_ ?_
  rotate_left
  · go_simp; try with_reducible rfl
  try simp only [Act.put, List.setIfInBounds_toArray, List.set_cons_zero, List.set_cons_succ]
  refine lv (by kernel_rfl) (some 14) rfl (v := ?_) ?_ ?_
  rotate_left
  · go_simp; try with_reducible rfl
  try simp only [Act.put, List.setIfInBounds_toArray, List.set_cons_zero, List.set_cons_succ]
  refine l_same (by kernel_rfl) (some 15) rfl (c24 _) (by kernel_rfl) ?_
  try simp only [Act.put, List.setIfInBounds_toArray, List.set_cons_zero, List.set_cons_succ]
  refine lv (by kernel_rfl) (some 16) rfl (v := ?_) ?_ ?_
  rotate_left
  · go_simp; try with_reducible rfl
  try simp only [Act.put, List.setIfInBounds_toArray, List.set_cons_zero, List.set_cons_succ]
  refine wpList_nil ?_
  go_upto_region 3 with fail
  refine wp_region_lit ?_
  refine lv (by kernel_rfl) (some 18) rfl (v := ?_) ?_ ?_
  rotate_left
  · go_simp; try with_reducible rfl
  try simp only [Act.put, List.setIfInBounds_toArray, List.set_cons_zero, List.set_cons_succ]
  refine ly M0 (some 19) rfl (yi_cell 0 3 (.tmp 18) rfl (by kernel_rfl) rfl _ rfl (.int .i64 k) Try.underlying3 rfl rfl) ?_
  try simp only [Act.put, List.setIfInBounds_toArray, List.set_cons_zero, List.set_cons_succ]
  refine lv (by kernel_rfl) (some 20) rfl (v := ?_) ?_ ?_
  rotate_left
  · go_simp; try with_reducible rfl
  try simp only [Act.put, List.setIfInBounds_toArray, List.set_cons_zero, List.set_cons_succ]
  refine lv (by kernel_rfl) (some 21) rfl (v := ?_) ?_ ?_
  rotate_left
  · go_simp; try with_reducible rfl
  try simp only [Act.put, List.setIfInBounds_toArray, List.set_cons_zero, List.set_cons_succ]
  with_reducible refine lu (by kernel_rfl) (some 22) rfl ?_
  try simp only [Act.put, List.setIfInBounds_toArray, List.set_cons_zero, List.set_cons_succ]
  with_reducible refine lu (by kernel_rfl) (some 23) rfl ?_
  try simp only [Act.put, List.setIfInBounds_toArray, List.set_cons_zero, List.set_cons_succ]
  with_reducible refine lu (by kernel_rfl) (some 24) rfl ?_
  try simp only [Act.put, List.setIfInBounds_toArray, List.set_cons_zero, List.set_cons_succ]
  refine lv (by kernel_rfl) (some 25) rfl (v := ?_) ?_ ?_
  rotate_left
  · go_simp; try with_reducible rfl
  try simp only [Act.put, List.setIfInBounds_toArray, List.set_cons_zero, List.set_cons_succ]
  refine wpList_nil ?_
  go_upto_region 14 with fail
  refine wp_region_lit ?_
  refine lv (by kernel_rfl) (some 49) rfl (v := ?_) ?_ ?_
  rotate_left
  · go_simp; try with_reducible rfl
  try simp only [Act.put, List.setIfInBounds_toArray, List.set_cons_zero, List.set_cons_succ]
  refine ly M0 (some 50) rfl (yi_cell 0 3 (.tmp 49) rfl (by kernel_rfl) rfl _ rfl (.int .i64 k) Try.underlying3 rfl rfl) ?_
  try simp only [Act.put, List.setIfInBounds_toArray, List.set_cons_zero, List.set_cons_succ]
  refine lv (by kernel_rfl) (some 51) rfl (v := ?_) ?_ ?_
  rotate_left
  · go_simp; try with_reducible rfl
  try simp only [Act.put, List.setIfInBounds_toArray, List.set_cons_zero, List.set_cons_succ]
  refine lv (by kernel_rfl) (some 52) rfl (v := ?_) ?_ ?_
  rotate_left
  · go_simp; try with_reducible rfl
  try simp only [Act.put, List.setIfInBounds_toArray, List.set_cons_zero, List.set_cons_succ]
  refine lv (by kernel_rfl) (some 53) rfl (v := ?_) ?_ ?_
  rotate_left
  · go_simp; try with_reducible rfl
  try simp only [Act.put, List.setIfInBounds_toArray, List.set_cons_zero, List.set_cons_succ]
  refine ly M0 (some 54) rfl (yi_cell 0 3 (.tmp 53) rfl (by kernel_rfl) rfl _ rfl (.int .i64 c) Try.underlying3 rfl rfl) ?_
  try simp only [Act.put, List.setIfInBounds_toArray, List.set_cons_zero, List.set_cons_succ]
  refine lv (by kernel_rfl) (some 55) rfl (v := ?_) ?_ ?_
  rotate_left
  · go_simp; try with_reducible rfl
  try simp only [Act.put, List.setIfInBounds_toArray, List.set_cons_zero, List.set_cons_succ]
  refine lv (by kernel_rfl) (some 56) rfl (v := ?_) ?_ ?_
  rotate_left
  · go_simp; try with_reducible rfl
  try simp only [Act.put, List.setIfInBounds_toArray, List.set_cons_zero, List.set_cons_succ]
  refine wpList_nil ?_
  go_upto_region 15 with fail
  refine wp_region_lit ?_
  refine lv (by kernel_rfl) (some 9) rfl (v := ?_) ?_ ?_
  rotate_left
  · go_simp; (try simp only [IntKind.wrap_u32, IntKind.wrap_i64, Int.reduceAdd, Int.reduceSub, Int.reduceMul, Int.reduceMod, Int.reducePow, Int.reduceNeg]); try with_reducible rfl
  try simp only [Act.put, List.setIfInBounds_toArray, List.set_cons_zero, List.set_cons_succ]
  refine wpList_nil ?_
  go_upto_region 16 with fail
  refine wp_region_lit ?_
  refine lv (by kernel_rfl) (some 57) rfl (v := ?_) ?_ ?_
  rotate_left
  · go_simp; (try simp only [IntKind.wrap_u32, IntKind.wrap_i64, Int.reduceAdd, Int.reduceSub, Int.reduceMul, Int.reduceMod, Int.reducePow, Int.reduceNeg]); try with_reducible rfl
  try simp only [Act.put, List.setIfInBounds_toArray, List.set_cons_zero, List.set_cons_succ]
  refine ly M0 (some 58) rfl (yi_cell 0 24 (.tmp 57) rfl (by kernel_rfl) rfl _ rfl (.int .u32 r) Try.underlying24 rfl rfl) ?_
  try simp only [Act.put, List.setIfInBounds_toArray, List.set_cons_zero, List.set_cons_succ]
  refine lv (by kernel_rfl) (some 59) rfl (v := ?_) ?_ ?_
  rotate_left
  · go_simp; (try simp only [IntKind.wrap_u32, IntKind.wrap_i64, Int.reduceAdd, Int.reduceSub, Int.reduceMul, Int.reduceMod, Int.reducePow, Int.reduceNeg]); try with_reducible rfl
  try simp only [Act.put, List.setIfInBounds_toArray, List.set_cons_zero, List.set_cons_succ]
  refine wpList_nil ?_
  go_upto_region 18 with fail
  refine wp_region_lit ?_
  refine lv (by kernel_rfl) (some 63) rfl (v := ?_) ?_ ?_
  rotate_left
  · go_simp; (try simp only [IntKind.wrap_u32, IntKind.wrap_i64, Int.reduceAdd, Int.reduceSub, Int.reduceMul, Int.reduceMod, Int.reducePow, Int.reduceNeg]); try with_reducible rfl
  try simp only [Act.put, List.setIfInBounds_toArray, List.set_cons_zero, List.set_cons_succ]
  refine ly M0 (some 64) rfl (yi_cell 0 24 (.tmp 63) rfl (by kernel_rfl) rfl _ rfl (.int .u32 r) Try.underlying24 rfl rfl) ?_
  try simp only [Act.put, List.setIfInBounds_toArray, List.set_cons_zero, List.set_cons_succ]
  refine lv (by kernel_rfl) (some 65) rfl (v := ?_) ?_ ?_
  rotate_left
  · go_simp; (try simp only [IntKind.wrap_u32, IntKind.wrap_i64, Int.reduceAdd, Int.reduceSub, Int.reduceMul, Int.reduceMod, Int.reducePow, Int.reduceNeg]); try with_reducible rfl
  try simp only [Act.put, List.setIfInBounds_toArray, List.set_cons_zero, List.set_cons_succ]
  refine lv (by kernel_rfl) (some 66) rfl (v := ?_) ?_ ?_
  rotate_left
  · go_simp; (try simp only [IntKind.wrap_u32, IntKind.wrap_i64, Int.reduceAdd, Int.reduceSub, Int.reduceMul, Int.reduceMod, Int.reducePow, Int.reduceNeg]); try with_reducible rfl
  try simp only [Act.put, List.setIfInBounds_toArray, List.set_cons_zero, List.set_cons_succ]
  refine lv (by kernel_rfl) (some 67) rfl (v := ?_) ?_ ?_
  rotate_left
  · go_simp; (try simp only [IntKind.wrap_u32, IntKind.wrap_i64, Int.reduceAdd, Int.reduceSub, Int.reduceMul, Int.reduceMod, Int.reducePow, Int.reduceNeg]); try with_reducible rfl
  try simp only [Act.put, List.setIfInBounds_toArray, List.set_cons_zero, List.set_cons_succ]
  refine ly M0 (some 68) rfl (yi_cell 0 24 (.tmp 67) rfl (by kernel_rfl) rfl _ rfl (.int .u32 r) Try.underlying24 rfl rfl) ?_
  try simp only [Act.put, List.setIfInBounds_toArray, List.set_cons_zero, List.set_cons_succ]
  refine lv (by kernel_rfl) (some 69) rfl (v := ?_) ?_ ?_
  rotate_left
  · go_simp; (try simp only [IntKind.wrap_u32, IntKind.wrap_i64, Int.reduceAdd, Int.reduceSub, Int.reduceMul, Int.reduceMod, Int.reducePow, Int.reduceNeg]); try with_reducible rfl
  try simp only [Act.put, List.setIfInBounds_toArray, List.set_cons_zero, List.set_cons_succ]
  refine lv (by kernel_rfl) (some 70) rfl (v := ?_) ?_ ?_
  rotate_left
  · go_simp; (try simp only [IntKind.wrap_u32, IntKind.wrap_i64, Int.reduceAdd, Int.reduceSub, Int.reduceMul, Int.reduceMod, Int.reducePow, Int.reduceNeg]); try with_reducible rfl
  try simp only [Act.put, List.setIfInBounds_toArray, List.set_cons_zero, List.set_cons_succ]
  refine wpList_nil ?_
  go_upto_region 20 with fail
  refine wp_region_lit ?_
  refine lv (by kernel_rfl) (some 71) rfl (v := ?_) ?_ ?_
  rotate_left
  · go_simp; (try simp only [IntKind.wrap_u32, IntKind.wrap_i64, Int.reduceAdd, Int.reduceSub, Int.reduceMul, Int.reduceMod, Int.reducePow, Int.reduceNeg]); try with_reducible rfl
  try simp only [Act.put, List.setIfInBounds_toArray, List.set_cons_zero, List.set_cons_succ]
  refine ly M0 (some 72) rfl (yi_cell 0 24 (.tmp 71) rfl (by kernel_rfl) rfl _ rfl (.int .u32 r) Try.underlying24 rfl rfl) ?_
  try simp only [Act.put, List.setIfInBounds_toArray, List.set_cons_zero, List.set_cons_succ]
  refine lv (by kernel_rfl) (some 73) rfl (v := ?_) ?_ ?_
  rotate_left
  · go_simp; (try simp only [IntKind.wrap_u32, IntKind.wrap_i64, Int.reduceAdd, Int.reduceSub, Int.reduceMul, Int.reduceMod, Int.reducePow, Int.reduceNeg]); try with_reducible rfl
  try simp only [Act.put, List.setIfInBounds_toArray, List.set_cons_zero, List.set_cons_succ]
  refine wpList_nil ?_
  go_upto_region 21 with fail
  refine wp_region_lit ?_
  refine lv (by kernel_rfl) (some 9) rfl (v := ?_) ?_ ?_
  rotate_left
  · go_simp; (try simp only [IntKind.wrap_u32, IntKind.wrap_i64, Int.reduceAdd, Int.reduceSub, Int.reduceMul, Int.reduceMod, Int.reducePow, Int.reduceNeg]); try with_reducible rfl
  try simp only [Act.put, List.setIfInBounds_toArray, List.set_cons_zero, List.set_cons_succ]
  refine wpList_nil ?_
  go_upto_region 28 with fail
  refine wp_region_lit ?_
  refine lv (by kernel_rfl) (some 93) rfl (v := ?_) ?_ ?_
  rotate_left
  · go_simp; (try simp only [IntKind.wrap_u32, IntKind.wrap_i64, Int.reduceAdd, Int.reduceSub, Int.reduceMul, Int.reduceMod, Int.reducePow, Int.reduceNeg]); try with_reducible rfl
  try simp only [Act.put, List.setIfInBounds_toArray, List.set_cons_zero, List.set_cons_succ]
  refine lv (by kernel_rfl) (some 94) rfl (v := ?_) ?_ ?_
  rotate_left
  · go_simp; (try simp only [IntKind.wrap_u32, IntKind.wrap_i64, Int.reduceAdd, Int.reduceSub, Int.reduceMul, Int.reduceMod, Int.reducePow, Int.reduceNeg]); try with_reducible rfl
  try simp only [Act.put, List.setIfInBounds_toArray, List.set_cons_zero, List.set_cons_succ]
  refine wpList_nil ?_
  go_upto_region 30 with fail
  refine wp_region_lit ?_
  refine lv (by kernel_rfl) (some 96) rfl (v := ?_) ?_ ?_
  rotate_left
  · go_simp; (try simp only [IntKind.wrap_u32, IntKind.wrap_i64, Int.reduceAdd, Int.reduceSub, Int.reduceMul, Int.reduceMod, Int.reducePow, Int.reduceNeg]); try with_reducible rfl
  try simp only [Act.put, List.setIfInBounds_toArray, List.set_cons_zero, List.set_cons_succ]
  refine lv (by kernel_rfl) (some 97) rfl (v := ?_) ?_ ?_
  rotate_left
  · go_simp; (try simp only [IntKind.wrap_u32, IntKind.wrap_i64, Int.reduceAdd, Int.reduceSub, Int.reduceMul, Int.reduceMod, Int.reducePow, Int.reduceNeg]); try with_reducible rfl
  try simp only [Act.put, List.setIfInBounds_toArray, List.set_cons_zero, List.set_cons_succ]
  refine lv (by kernel_rfl) (some 98) rfl (v := ?_) ?_ ?_
  rotate_left
  · go_simp; (try simp only [IntKind.wrap_u32, IntKind.wrap_i64, Int.reduceAdd, Int.reduceSub, Int.reduceMul, Int.reduceMod, Int.reducePow, Int.reduceNeg]); try with_reducible rfl
  try simp only [Act.put, List.setIfInBounds_toArray, List.set_cons_zero, List.set_cons_succ]
  refine lv (by kernel_rfl) (some 99) rfl (v := ?_) ?_ ?_
  rotate_left
  · go_simp; (try simp only [IntKind.wrap_u32, IntKind.wrap_i64, Int.reduceAdd, Int.reduceSub, Int.reduceMul, Int.reduceMod, Int.reducePow, Int.reduceNeg]); try with_reducible rfl
  try simp only [Act.put, List.setIfInBounds_toArray, List.set_cons_zero, List.set_cons_succ]
  refine ly M0 (some 100) rfl (yi_cell 0 9 (.tmp 99) rfl (by kernel_rfl) rfl _ rfl (.string d) Try.underlying9 rfl rfl) ?_
  try simp only [Act.put, List.setIfInBounds_toArray, List.set_cons_zero, List.set_cons_succ]
  refine lv (by kernel_rfl) (some 101) rfl (v := ?_) ?_ ?_
  rotate_left
  · go_simp; (try simp only [IntKind.wrap_u32, IntKind.wrap_i64, Int.reduceAdd, Int.reduceSub, Int.reduceMul, Int.reduceMod, Int.reducePow, Int.reduceNeg]); try with_reducible rfl
  try simp only [Act.put, List.setIfInBounds_toArray, List.set_cons_zero, List.set_cons_succ]
  refine l_store M0 1 (by kernel_rfl) 26 (.tmp 6) _ rfl rfl rfl rfl _ rfl (by kernel_rfl) (by rfl) (by kernel_rfl) _ rfl (fun s1 M1 => ?_)
  clear M0
  try simp only [List.cons_append, List.nil_append, List.set_cons_zero, List.set_cons_succ] at M1
  try simp only [Act.put, List.setIfInBounds_toArray, List.set_cons_zero, List.set_cons_succ]
  refine lv (by kernel_rfl) (some 7) rfl (v := ?_) ?_ ?_
  rotate_left
  · go_simp; (try simp only [IntKind.wrap_u32, IntKind.wrap_i64, Int.reduceAdd, Int.reduceSub, Int.reduceMul, Int.reduceMod, Int.reducePow, Int.reduceNeg]); try with_reducible rfl
  try simp only [Act.put, List.setIfInBounds_toArray, List.set_cons_zero, List.set_cons_succ]
  refine wpList_nil ?_
  go_wp2_with fail
  exact bodyPost_ret (v := retM (some (12, 0, 150994944)) d) (results_cell_tmp rfl (M1.row (i := 1) rfl) _ rfl _ rfl Try.underlying26 rfl (by kernel_rfl)) rfl ⟨rfl, M1.below⟩
set_option maxRecDepth 100000 in
set_option maxHeartbeats 4000000 in
theorem rto4_p7 (k c r : Int) (d : ByteArray) (a b : Int) (w : World) (hs : Sides a b) (h4 : (k == 4) = true) (hk2 : (k == 2) = false) (h0 : (c == 0) = true) (hwr : IntKind.i64.wrap r = r) (l1 : ¬ r ≤ 1) (e4 : (r == 4) = false) (e5 : (r == 5) = false) (e6 : (r == 6) = false) (e7 : (r == 7) = true) :
    Calls Try.prog 16 #[msgV k c r d, .int .i64 a, .int .i64 b] w fun e w' => e = .returned (retM (some (12, 0, 134217728)) d) ∧ Below w.heap.size w w' := by
  have c24 := fun w => rbounds_t a b w hs
  clear hs

  go_enter Try.func16, Try.ntmps16
  go_upto_region 1 with fail
  have M0 := Mem.two w 26 26 #[.int .i64 k, .int .i64 c, .int .u32 r, .string d] #[.int .i64 0, .int .i64 0, .int .u32 0, .string ⟨#[]⟩]
  refine wp_region_lit ?_
  refine lv (by kernel_rfl) (some 13) rfl (v := ?_) ?_ ?_
  rotate_left
  · go_simp; try with_reducible rfl
  try simp only [Act.put, List.setIfInBounds_toArray, List.set_cons_zero, List.set_cons_succ]
  refine lv (by kernel_rfl) (some 14) rfl (v := ?_) ?_ ?_
  rotate_left
  · go_simp; try with_reducible rfl
  try simp only [Act.put, List.setIfInBounds_toArray, List.set_cons_zero, List.set_cons_succ]
  refine l_same (by kernel_rfl) (some 15) rfl (c24 _) (by kernel_rfl) ?_
  try simp only [Act.put, List.setIfInBounds_toArray, List.set_cons_zero, List.set_cons_succ]
  refine lv (by kernel_rfl) (some 16) rfl (v := ?_) ?_ ?_
  rotate_left
  · go_simp; try with_reducible rfl
  try simp only [Act.put, List.setIfInBounds_toArray, List.set_cons_zero, List.set_cons_succ]
  refine wpList_nil ?_
  go_upto_region 3 with fail
  refine wp_region_lit ?_
  refine lv (by kernel_rfl) (some 18) rfl (v := ?_) ?_ ?_
  rotate_left
  · go_simp; try with_reducible rfl
  try simp only [Act.put, List.setIfInBounds_toArray, List.set_cons_zero, List.set_cons_succ]
  refine ly M0 (some 19) rfl (yi_cell 0 3 (.tmp 18) rfl (by kernel_rfl) rfl _ rfl (.int .i64 k) Try.underlying3 rfl rfl) ?_
  try simp only [Act.put, List.setIfInBounds_toArray, List.set_cons_zero, List.set_cons_succ]
  refine lv (by kernel_rfl) (some 20) rfl (v := ?_) ?_ ?_
  rotate_left
  · go_simp; try with_reducible rfl
  try simp only [Act.put, List.setIfInBounds_toArray, List.set_cons_zero, List.set_cons_succ]
  refine lv (by kernel_rfl) (some 21) rfl (v := ?_) ?_ ?_
  rotate_left
  · go_simp; try with_reducible rfl
  try simp only [Act.put, List.setIfInBounds_toArray, List.set_cons_zero, List.set_cons_succ]
  with_reducible refine lu (by kernel_rfl) (some 22) rfl ?_
  try simp only [Act.put, List.setIfInBounds_toArray, List.set_cons_zero, List.set_cons_succ]
  with_reducible refine lu (by kernel_rfl) (some 23) rfl ?_
  try simp only [Act.put, List.setIfInBounds_toArray, List.set_cons_zero, List.set_cons_succ]
  with_reducible refine lu (by kernel_rfl) (some 24) rfl ?_
  try simp only [Act.put, List.setIfInBounds_toArray, List.set_cons_zero, List.set_cons_succ]
  refine lv (by kernel_rfl) (some 25) rfl (v := ?_) ?_ ?_
  rotate_left
  · go_simp; try with_reducible rfl
  try simp only [Act.put, List.setIfInBounds_toArray, List.set_cons_zero, List.set_cons_succ]
  refine wpList_nil ?_
  go_upto_region 14 with fail
  refine wp_region_lit ?_
  refine lv (by kernel_rfl) (some 49) rfl (v := ?_) ?_ ?_
  rotate_left
  · go_simp; try with_reducible rfl
  try simp only [Act.put, List.setIfInBounds_toArray, List.set_cons_zero, List.set_cons_succ]
  refine ly M0 (some 50) rfl (yi_cell 0 3 (.tmp 49) rfl (by kernel_rfl) rfl _ rfl (.int .i64 k) Try.underlying3 rfl rfl) ?_
  try simp only [Act.put, List.setIfInBounds_toArray, List.set_cons_zero, List.set_cons_succ]
  refine lv (by kernel_rfl) (some 51) rfl (v := ?_) ?_ ?_
  rotate_left
  · go_simp; try with_reducible rfl
  try simp only [Act.put, List.setIfInBounds_toArray, List.set_cons_zero, List.set_cons_succ]
  refine lv (by kernel_rfl) (some 52) rfl (v := ?_) ?_ ?_
  rotate_left
  · go_simp; try with_reducible rfl
  try simp only [Act.put, List.setIfInBounds_toArray, List.set_cons_zero, List.set_cons_succ]
  refine lv (by kernel_rfl) (some 53) rfl (v := ?_) ?_ ?_
  rotate_left
  · go_simp; try with_reducible rfl
  try simp only [Act.put, List.setIfInBounds_toArray, List.set_cons_zero, List.set_cons_succ]
  refine ly M0 (some 54) rfl (yi_cell 0 3 (.tmp 53) rfl (by kernel_rfl) rfl _ rfl (.int .i64 c) Try.underlying3 rfl rfl) ?_
  try simp only [Act.put, List.setIfInBounds_toArray, List.set_cons_zero, List.set_cons_succ]
  refine lv (by kernel_rfl) (some 55) rfl (v := ?_) ?_ ?_
  rotate_left
  · go_simp; try with_reducible rfl
  try simp only [Act.put, List.setIfInBounds_toArray, List.set_cons_zero, List.set_cons_succ]
  refine lv (by kernel_rfl) (some 56) rfl (v := ?_) ?_ ?_
  rotate_left
  · go_simp; try with_reducible rfl
  try simp only [Act.put, List.setIfInBounds_toArray, List.set_cons_zero, List.set_cons_succ]
  refine wpList_nil ?_
  go_upto_region 15 with fail
  refine wp_region_lit ?_
  refine lv (by kernel_rfl) (some 9) rfl (v := ?_) ?_ ?_
  rotate_left
  · go_simp; (try simp only [IntKind.wrap_u32, IntKind.wrap_i64, Int.reduceAdd, Int.reduceSub, Int.reduceMul, Int.reduceMod, Int.reducePow, Int.reduceNeg]); try with_reducible rfl
  try simp only [Act.put, List.setIfInBounds_toArray, List.set_cons_zero, List.set_cons_succ]
  refine wpList_nil ?_
  go_upto_region 16 with fail
  refine wp_region_lit ?_
  refine lv (by kernel_rfl) (some 57) rfl (v := ?_) ?_ ?_
  rotate_left
  · go_simp; (try simp only [IntKind.wrap_u32, IntKind.wrap_i64, Int.reduceAdd, Int.reduceSub, Int.reduceMul, Int.reduceMod, Int.reducePow, Int.reduceNeg]); try with_reducible rfl
  try simp only [Act.put, List.setIfInBounds_toArray, List.set_cons_zero, List.set_cons_succ]
  refine ly M0 (some 58) rfl (yi_cell 0 24 (.tmp 57) rfl (by kernel_rfl) rfl _ rfl (.int .u32 r) Try.underlying24 rfl rfl) ?_
  try simp only [Act.put, List.setIfInBounds_toArray, List.set_cons_zero, List.set_cons_succ]
  refine lv (by kernel_rfl) (some 59) rfl (v := ?_) ?_ ?_
  rotate_left
  · go_simp; (try simp only [IntKind.wrap_u32, IntKind.wrap_i64, Int.reduceAdd, Int.reduceSub, Int.reduceMul, Int.reduceMod, Int.reducePow, Int.reduceNeg]); try with_reducible rfl
  try simp only [Act.put, List.setIfInBounds_toArray, List.set_cons_zero, List.set_cons_succ]
  refine wpList_nil ?_
  go_upto_region 18 with fail
  refine wp_region_lit ?_
  refine lv (by kernel_rfl) (some 63) rfl (v := ?_) ?_ ?_
  rotate_left
  · go_simp; (try simp only [IntKind.wrap_u32, IntKind.wrap_i64, Int.reduceAdd, Int.reduceSub, Int.reduceMul, Int.reduceMod, Int.reducePow, Int.reduceNeg]); try with_reducible rfl
  try simp only [Act.put, List.setIfInBounds_toArray, List.set_cons_zero, List.set_cons_succ]
  refine ly M0 (some 64) rfl (yi_cell 0 24 (.tmp 63) rfl (by kernel_rfl) rfl _ rfl (.int .u32 r) Try.underlying24 rfl rfl) ?_
  try simp only [Act.put, List.setIfInBounds_toArray, List.set_cons_zero, List.set_cons_succ]
  refine lv (by kernel_rfl) (some 65) rfl (v := ?_) ?_ ?_
  rotate_left
  · go_simp; (try simp only [IntKind.wrap_u32, IntKind.wrap_i64, Int.reduceAdd, Int.reduceSub, Int.reduceMul, Int.reduceMod, Int.reducePow, Int.reduceNeg]); try with_reducible rfl
  try simp only [Act.put, List.setIfInBounds_toArray, List.set_cons_zero, List.set_cons_succ]
  refine lv (by kernel_rfl) (some 66) rfl (v := ?_) ?_ ?_
  rotate_left
  · go_simp; (try simp only [IntKind.wrap_u32, IntKind.wrap_i64, Int.reduceAdd, Int.reduceSub, Int.reduceMul, Int.reduceMod, Int.reducePow, Int.reduceNeg]); try with_reducible rfl
  try simp only [Act.put, List.setIfInBounds_toArray, List.set_cons_zero, List.set_cons_succ]
  refine lv (by kernel_rfl) (some 67) rfl (v := ?_) ?_ ?_
  rotate_left
  · go_simp; (try simp only [IntKind.wrap_u32, IntKind.wrap_i64, Int.reduceAdd, Int.reduceSub, Int.reduceMul, Int.reduceMod, Int.reducePow, Int.reduceNeg]); try with_reducible rfl
  try simp only [Act.put, List.setIfInBounds_toArray, List.set_cons_zero, List.set_cons_succ]
  refine ly M0 (some 68) rfl (yi_cell 0 24 (.tmp 67) rfl (by kernel_rfl) rfl _ rfl (.int .u32 r) Try.underlying24 rfl rfl) ?_
  try simp only [Act.put, List.setIfInBounds_toArray, List.set_cons_zero, List.set_cons_succ]
  refine lv (by kernel_rfl) (some 69) rfl (v := ?_) ?_ ?_
  rotate_left
  · go_simp; (try simp only [IntKind.wrap_u32, IntKind.wrap_i64, Int.reduceAdd, Int.reduceSub, Int.reduceMul, Int.reduceMod, Int.reducePow, Int.reduceNeg]); try with_reducible rfl
  try simp only [Act.put, List.setIfInBounds_toArray, List.set_cons_zero, List.set_cons_succ]
  refine lv (by kernel_rfl) (some 70) rfl (v := ?_) ?_ ?_
  rotate_left
  · go_simp; (try simp only [IntKind.wrap_u32, IntKind.wrap_i64, Int.reduceAdd, Int.reduceSub, Int.reduceMul, Int.reduceMod, Int.reducePow, Int.reduceNeg]); try with_reducible rfl
  try simp only [Act.put, List.setIfInBounds_toArray, List.set_cons_zero, List.set_cons_succ]
  refine wpList_nil ?_
  go_upto_region 20 with fail
  refine wp_region_lit ?_
  refine lv (by kernel_rfl) (some 71) rfl (v := ?_) ?_ ?_
  rotate_left
  · go_simp; (try simp only [IntKind.wrap_u32, IntKind.wrap_i64, Int.reduceAdd, Int.reduceSub, Int.reduceMul, Int.reduceMod, Int.reducePow, Int.reduceNeg]); try with_reducible rfl
  try simp only [Act.put, List.setIfInBounds_toArray, List.set_cons_zero, List.set_cons_succ]
  refine ly M0 (some 72) rfl (yi_cell 0 24 (.tmp 71) rfl (by kernel_rfl) rfl _ rfl (.int .u32 r) Try.underlying24 rfl rfl) ?_
  try simp only [Act.put, List.setIfInBounds_toArray, List.set_cons_zero, List.set_cons_succ]
  refine lv (by kernel_rfl) (some 73) rfl (v := ?_) ?_ ?_
  rotate_left
  · go_simp; (try simp only [IntKind.wrap_u32, IntKind.wrap_i64, Int.reduceAdd, Int.reduceSub, Int.reduceMul, Int.reduceMod, Int.reducePow, Int.reduceNeg]); try with_reducible rfl
  try simp only [Act.put, List.setIfInBounds_toArray, List.set_cons_zero, List.set_cons_succ]
  refine wpList_nil ?_
  go_upto_region 22 with fail
  refine wp_region_lit ?_
  refine lv (by kernel_rfl) (some 74) rfl (v := ?_) ?_ ?_
  rotate_left
  · go_simp; (try simp only [IntKind.wrap_u32, IntKind.wrap_i64, Int.reduceAdd, Int.reduceSub, Int.reduceMul, Int.reduceMod, Int.reducePow, Int.reduceNeg]); try with_reducible rfl
  try simp only [Act.put, List.setIfInBounds_toArray, List.set_cons_zero, List.set_cons_succ]
  refine ly M0 (some 75) rfl (yi_cell 0 24 (.tmp 74) rfl (by kernel_rfl) rfl _ rfl (.int .u32 r) Try.underlying24 rfl rfl) ?_
  try simp only [Act.put, List.setIfInBounds_toArray, List.set_cons_zero, List.set_cons_succ]
  refine lv (by kernel_rfl) (some 76) rfl (v := ?_) ?_ ?_
  rotate_left
  · go_simp; (try simp only [IntKind.wrap_u32, IntKind.wrap_i64, Int.reduceAdd, Int.reduceSub, Int.reduceMul, Int.reduceMod, Int.reducePow, Int.reduceNeg]); try with_reducible rfl
  try simp only [Act.put, List.setIfInBounds_toArray, List.set_cons_zero, List.set_cons_succ]
  refine wpList_nil ?_
  go_upto_region 23 with fail
  refine wp_region_lit ?_
  refine lv (by kernel_rfl) (some 9) rfl (v := ?_) ?_ ?_
  rotate_left
  · go_simp; (try simp only [IntKind.wrap_u32, IntKind.wrap_i64, Int.reduceAdd, Int.reduceSub, Int.reduceMul, Int.reduceMod, Int.reducePow, Int.reduceNeg]); try with_reducible rfl
  try simp only [Act.put, List.setIfInBounds_toArray, List.set_cons_zero, List.set_cons_succ]
  refine wpList_nil ?_
  go_upto_region 28 with fail
  refine wp_region_lit ?_
  refine lv (by kernel_rfl) (some 93) rfl (v := ?_) ?_ ?_
  rotate_left
  · go_simp; (try simp only [IntKind.wrap_u32, IntKind.wrap_i64, Int.reduceAdd, Int.reduceSub, Int.reduceMul, Int.reduceMod, Int.reducePow, Int.reduceNeg]); try with_reducible rfl
  try simp only [Act.put, List.setIfInBounds_toArray, List.set_cons_zero, List.set_cons_succ]
  refine lv (by kernel_rfl) (some 94) rfl (v := ?_) ?_ ?_
  rotate_left
  · go_simp; (try simp only [IntKind.wrap_u32, IntKind.wrap_i64, Int.reduceAdd, Int.reduceSub, Int.reduceMul, Int.reduceMod, Int.reducePow, Int.reduceNeg]); try with_reducible rfl
  try simp only [Act.put, List.setIfInBounds_toArray, List.set_cons_zero, List.set_cons_succ]
  refine wpList_nil ?_
  go_upto_region 30 with fail
  refine wp_region_lit ?_
  refine lv (by kernel_rfl) (some 96) rfl (v := ?_) ?_ ?_
  rotate_left
  · go_simp; (try simp only [IntKind.wrap_u32, IntKind.wrap_i64, Int.reduceAdd, Int.reduceSub, Int.reduceMul, Int.reduceMod, Int.reducePow, Int.reduceNeg]); try with_reducible rfl
  try simp only [Act.put, List.setIfInBounds_toArray, List.set_cons_zero, List.set_cons_succ]
  refine lv (by kernel_rfl) (some 97) rfl (v := ?_) ?_ ?_
  rotate_left
  · go_simp; (try simp only [IntKind.wrap_u32, IntKind.wrap_i64, Int.reduceAdd, Int.reduceSub, Int.reduceMul, Int.reduceMod, Int.reducePow, Int.reduceNeg]); try with_reducible rfl
  try simp only [Act.put, List.setIfInBounds_toArray, List.set_cons_zero, List.set_cons_succ]
  refine lv (by kernel_rfl) (some 98) rfl (v := ?_) ?_ ?_
  rotate_left
  · go_simp; (try simp only [IntKind.wrap_u32, IntKind.wrap_i64, Int.reduceAdd, Int.reduceSub, Int.reduceMul, Int.reduceMod, Int.reducePow, Int.reduceNeg]); try with_reducible rfl
  try simp only [Act.put, List.setIfInBounds_toArray, List.set_cons_zero, List.set_cons_succ]
  refine lv (by kernel_rfl) (some 99) rfl (v := ?_) ?_ ?_
  rotate_left
  · go_simp; (try simp only [IntKind.wrap_u32, IntKind.wrap_i64, Int.reduceAdd, Int.reduceSub, Int.reduceMul, Int.reduceMod, Int.reducePow, Int.reduceNeg]); try with_reducible rfl
  try simp only [Act.put, List.setIfInBounds_toArray, List.set_cons_zero, List.set_cons_succ]
  refine ly M0 (some 100) rfl (yi_cell 0 9 (.tmp 99) rfl (by kernel_rfl) rfl _ rfl (.string d) Try.underlying9 rfl rfl) ?_
  try simp only [Act.put, List.setIfInBounds_toArray, List.set_cons_zero, List.set_cons_succ]
  refine lv (by kernel_rfl) (some 101) rfl (v := ?_) ?_ ?_
  rotate_left
  · go_simp; (try simp only [IntKind.wrap_u32, IntKind.wrap_i64, Int.reduceAdd, Int.reduceSub, Int.reduceMul, Int.reduceMod, Int.reducePow, Int.reduceNeg]); try with_reducible rfl
  try simp only [Act.put, List.setIfInBounds_toArray, List.set_cons_zero, List.set_cons_succ]
  refine l_store M0 1 (by kernel_rfl) 26 (.tmp 6) _ rfl rfl rfl rfl _ rfl (by kernel_rfl) (by rfl) (by kernel_rfl) _ rfl (fun s1 M1 => ?_)
  clear M0
  try simp only [List.cons_append, List.nil_append, List.set_cons_zero, List.set_cons_succ] at M1
  try simp only [Act.put, List.setIfInBounds_toArray, List.set_cons_zero, List.set_cons_succ]
  refine lv (by kernel_rfl) (some 7) rfl (v := ?_) ?_ ?_
  rotate_left
  · go_simp; (try simp only [IntKind.wrap_u32, IntKind.wrap_i64, Int.reduceAdd, Int.reduceSub, Int.reduceMul, Int.reduceMod, Int.reducePow, Int.reduceNeg]); try with_reducible rfl
  try simp only [Act.put, List.setIfInBounds_toArray, List.set_cons_zero, List.set_cons_succ]
  refine wpList_nil ?_
  go_wp2_with fail
  exact bodyPost_ret (v := retM (some (12, 0, 134217728)) d) (results_cell_tmp rfl (M1.row (i := 1) rfl) _ rfl _ rfl Try.underlying26 rfl (by kernel_rfl)) rfl ⟨rfl, M1.below⟩
set_option maxRecDepth 100000 in
set_option maxHeartbeats 4000000 in
theorem rto4_p8 (k c r : Int) (d : ByteArray) (a b : Int) (w : World) (hs : Sides a b) (h4 : (k == 4) = true) (hk2 : (k == 2) = false) (h0 : (c == 0) = true) (hwr : IntKind.i64.wrap r = r) (l1 : ¬ r ≤ 1) (e4 : (r == 4) = false) (e5 : (r == 5) = false) (e6 : (r == 6) = false) (e7 : (r == 7) = false) (e8 : 8 ≤ r) (e24 : r < 24) :
    Calls Try.prog 16 #[msgV k c r d, .int .i64 a, .int .i64 b] w fun e w' => e = .returned (retM (some (12, 0, 201326592)) d) ∧ Below w.heap.size w w' := by
  have c24 := fun w => rbounds_t a b w hs
  clear hs

  go_enter Try.func16, Try.ntmps16
  go_upto_region 1 with fail
  have M0 := Mem.two w 26 26 #[.int .i64 k, .int .i64 c, .int .u32 r, .string d] #[.int .i64 0, .int .i64 0, .int .u32 0, .string ⟨#[]⟩]
  refine wp_region_lit ?_
  refine lv (by kernel_rfl) (some 13) rfl (v := ?_) ?_ ?_
  rotate_left
  · go_simp; try with_reducible rfl
  try simp only [Act.put, List.setIfInBounds_toArray, List.set_cons_zero, List.set_cons_succ]
  refine lv (by kernel_rfl) (some 14) rfl (v := ?_) ?_ ?_
  rotate_left
  · go_simp; try with_reducible rfl
  try simp only [Act.put, List.setIfInBounds_toArray, List.set_cons_zero, List.set_cons_succ]
  refine l_same (by kernel_rfl) (some 15) rfl (c24 _) (by kernel_rfl) ?_
  try simp only [Act.put, List.setIfInBounds_toArray, List.set_cons_zero, List.set_cons_succ]
  refine lv (by kernel_rfl) (some 16) rfl (v := ?_) ?_ ?_
  rotate_left
  · go_simp; try with_reducible rfl
  try simp only [Act.put, List.setIfInBounds_toArray, List.set_cons_zero, List.set_cons_succ]
  refine wpList_nil ?_
  go_upto_region 3 with fail
  refine wp_region_lit ?_
  refine lv (by kernel_rfl) (some 18) rfl (v := ?_) ?_ ?_
  rotate_left
  · go_simp; try with_reducible rfl
  try simp only [Act.put, List.setIfInBounds_toArray, List.set_cons_zero, List.set_cons_succ]
  refine ly M0 (some 19) rfl (yi_cell 0 3 (.tmp 18) rfl (by kernel_rfl) rfl _ rfl (.int .i64 k) Try.underlying3 rfl rfl) ?_
  try simp only [Act.put, List.setIfInBounds_toArray, List.set_cons_zero, List.set_cons_succ]
  refine lv (by kernel_rfl) (some 20) rfl (v := ?_) ?_ ?_
  rotate_left
  · go_simp; try with_reducible rfl
  try simp only [Act.put, List.setIfInBounds_toArray, List.set_cons_zero, List.set_cons_succ]
  refine lv (by kernel_rfl) (some 21) rfl (v := ?_) ?_ ?_
  rotate_left
  · go_simp; try with_reducible rfl
  try simp only [Act.put, List.setIfInBounds_toArray, List.set_cons_zero, List.set_cons_succ]
  with_reducible refine lu (by kernel_rfl) (some 22) rfl ?_
  try simp only [Act.put, List.setIfInBounds_toArray, List.set_cons_zero, List.set_cons_succ]
  with_reducible refine lu (by kernel_rfl) (some 23) rfl ?_
  try simp only [Act.put, List.setIfInBounds_toArray, List.set_cons_zero, List.set_cons_succ]
  with_reducible refine lu (by kernel_rfl) (some 24) rfl ?_
  try simp only [Act.put, List.setIfInBounds_toArray, List.set_cons_zero, List.set_cons_succ]
  refine lv (by kernel_rfl) (some 25) rfl (v := ?_) ?_ ?_
  rotate_left
  · go_simp; try with_reducible rfl
  try simp only [Act.put, List.setIfInBounds_toArray, List.set_cons_zero, List.set_cons_succ]
  refine wpList_nil ?_
  go_upto_region 14 with fail
  refine wp_region_lit ?_
  refine lv (by kernel_rfl) (some 49) rfl (v := ?_) ?_ ?_
  rotate_left
  · go_simp; try with_reducible rfl
  try simp only [Act.put, List.setIfInBounds_toArray, List.set_cons_zero, List.set_cons_succ]
  refine ly M0 (some 50) rfl (yi_cell 0 3 (.tmp 49) rfl (by kernel_rfl) rfl _ rfl (.int .i64 k) Try.underlying3 rfl rfl) ?_
  try simp only [Act.put, List.setIfInBounds_toArray, List.set_cons_zero, List.set_cons_succ]
  refine lv (by kernel_rfl) (some 51) rfl (v := ?_) ?_ ?_
  rotate_left
  · go_simp; try with_reducible rfl
  try simp only [Act.put, List.setIfInBounds_toArray, List.set_cons_zero, List.set_cons_succ]
  refine lv (by kernel_rfl) (some 52) rfl (v := ?_) ?_ ?_
  rotate_left
  · go_simp; try with_reducible rfl
  try simp only [Act.put, List.setIfInBounds_toArray, List.set_cons_zero, List.set_cons_succ]
  refine lv (by kernel_rfl) (some 53) rfl (v := ?_) ?_ ?_
  rotate_left
  · go_simp; try with_reducible rfl
  try simp only [Act.put, List.setIfInBounds_toArray, List.set_cons_zero, List.set_cons_succ]
  refine ly M0 (some 54) rfl (yi_cell 0 3 (.tmp 53) rfl (by kernel_rfl) rfl _ rfl (.int .i64 c) Try.underlying3 rfl rfl) ?_
  try simp only [Act.put, List.setIfInBounds_toArray, List.set_cons_zero, List.set_cons_succ]
  refine lv (by kernel_rfl) (some 55) rfl (v := ?_) ?_ ?_
  rotate_left
  · go_simp; try with_reducible rfl
  try simp only [Act.put, List.setIfInBounds_toArray, List.set_cons_zero, List.set_cons_succ]
  refine lv (by kernel_rfl) (some 56) rfl (v := ?_) ?_ ?_
  rotate_left
  · go_simp; try with_reducible rfl
  try simp only [Act.put, List.setIfInBounds_toArray, List.set_cons_zero, List.set_cons_succ]
  refine wpList_nil ?_
  go_upto_region 15 with fail
  refine wp_region_lit ?_
  refine lv (by kernel_rfl) (some 9) rfl (v := ?_) ?_ ?_
  rotate_left
  · go_simp; (try simp only [IntKind.wrap_u32, IntKind.wrap_i64, Int.reduceAdd, Int.reduceSub, Int.reduceMul, Int.reduceMod, Int.reducePow, Int.reduceNeg]); try with_reducible rfl
  try simp only [Act.put, List.setIfInBounds_toArray, List.set_cons_zero, List.set_cons_succ]
  refine wpList_nil ?_
  go_upto_region 16 with fail
  refine wp_region_lit ?_
  refine lv (by kernel_rfl) (some 57) rfl (v := ?_) ?_ ?_
  rotate_left
  · go_simp; (try simp only [IntKind.wrap_u32, IntKind.wrap_i64, Int.reduceAdd, Int.reduceSub, Int.reduceMul, Int.reduceMod, Int.reducePow, Int.reduceNeg]); try with_reducible rfl
  try simp only [Act.put, List.setIfInBounds_toArray, List.set_cons_zero, List.set_cons_succ]
  refine ly M0 (some 58) rfl (yi_cell 0 24 (.tmp 57) rfl (by kernel_rfl) rfl _ rfl (.int .u32 r) Try.underlying24 rfl rfl) ?_
  try simp only [Act.put, List.setIfInBounds_toArray, List.set_cons_zero, List.set_cons_succ]
  refine lv (by kernel_rfl) (some 59) rfl (v := ?_) ?_ ?_
  rotate_left
  · go_simp; (try simp only [IntKind.wrap_u32, IntKind.wrap_i64, Int.reduceAdd, Int.reduceSub, Int.reduceMul, Int.reduceMod, Int.reducePow, Int.reduceNeg]); try with_reducible rfl
  try simp only [Act.put, List.setIfInBounds_toArray, List.set_cons_zero, List.set_cons_succ]
  refine wpList_nil ?_
  go_upto_region 18 with fail
  refine wp_region_lit ?_
  refine lv (by kernel_rfl) (some 63) rfl (v := ?_) ?_ ?_
  rotate_left
  · go_simp; (try simp only [IntKind.wrap_u32, IntKind.wrap_i64, Int.reduceAdd, Int.reduceSub, Int.reduceMul, Int.reduceMod, Int.reducePow, Int.reduceNeg]); try with_reducible rfl
  try simp only [Act.put, List.setIfInBounds_toArray, List.set_cons_zero, List.set_cons_succ]
  refine ly M0 (some 64) rfl (yi_cell 0 24 (.tmp 63) rfl (by kernel_rfl) rfl _ rfl (.int .u32 r) Try.underlying24 rfl rfl) ?_
  try simp only [Act.put, List.setIfInBounds_toArray, List.set_cons_zero, List.set_cons_succ]
  refine lv (by kernel_rfl) (some 65) rfl (v := ?_) ?_ ?_
  rotate_left
  · go_simp; (try simp only [IntKind.wrap_u32, IntKind.wrap_i64, Int.reduceAdd, Int.reduceSub, Int.reduceMul, Int.reduceMod, Int.reducePow, Int.reduceNeg]); try with_reducible rfl
  try simp only [Act.put, List.setIfInBounds_toArray, List.set_cons_zero, List.set_cons_succ]
  refine lv (by kernel_rfl) (some 66) rfl (v := ?_) ?_ ?_
  rotate_left
  · go_simp; (try simp only [IntKind.wrap_u32, IntKind.wrap_i64, Int.reduceAdd, Int.reduceSub, Int.reduceMul, Int.reduceMod, Int.reducePow, Int.reduceNeg]); try with_reducible rfl
  try simp only [Act.put, List.setIfInBounds_toArray, List.set_cons_zero, List.set_cons_succ]
  refine lv (by kernel_rfl) (some 67) rfl (v := ?_) ?_ ?_
  rotate_left
  · go_simp; (try simp only [IntKind.wrap_u32, IntKind.wrap_i64, Int.reduceAdd, Int.reduceSub, Int.reduceMul, Int.reduceMod, Int.reducePow, Int.reduceNeg]); try with_reducible rfl
  try simp only [Act.put, List.setIfInBounds_toArray, List.set_cons_zero, List.set_cons_succ]
  refine ly M0 (some 68) rfl (yi_cell 0 24 (.tmp 67) rfl (by kernel_rfl) rfl _ rfl (.int .u32 r) Try.underlying24 rfl rfl) ?_
  try simp only [Act.put, List.setIfInBounds_toArray, List.set_cons_zero, List.set_cons_succ]
  refine lv (by kernel_rfl) (some 69) rfl (v := ?_) ?_ ?_
  rotate_left
  · go_simp; (try simp only [IntKind.wrap_u32, IntKind.wrap_i64, Int.reduceAdd, Int.reduceSub, Int.reduceMul, Int.reduceMod, Int.reducePow, Int.reduceNeg]); try with_reducible rfl
  try simp only [Act.put, List.setIfInBounds_toArray, List.set_cons_zero, List.set_cons_succ]
  refine lv (by kernel_rfl) (some 70) rfl (v := ?_) ?_ ?_
  rotate_left
  · go_simp; (try simp only [IntKind.wrap_u32, IntKind.wrap_i64, Int.reduceAdd, Int.reduceSub, Int.reduceMul, Int.reduceMod, Int.reducePow, Int.reduceNeg]); try with_reducible rfl
  try simp only [Act.put, List.setIfInBounds_toArray, List.set_cons_zero, List.set_cons_succ]
  refine wpList_nil ?_
  go_upto_region 20 with fail
  refine wp_region_lit ?_
  refine lv (by kernel_rfl) (some 71) rfl (v := ?_) ?_ ?_
  rotate_left
  · go_simp; (try simp only [IntKind.wrap_u32, IntKind.wrap_i64, Int.reduceAdd, Int.reduceSub, Int.reduceMul, Int.reduceMod, Int.reducePow, Int.reduceNeg]); try with_reducible rfl
  try simp only [Act.put, List.setIfInBounds_toArray, List.set_cons_zero, List.set_cons_succ]
  refine ly M0 (some 72) rfl (yi_cell 0 24 (.tmp 71) rfl (by kernel_rfl) rfl _ rfl (.int .u32 r) Try.underlying24 rfl rfl) ?_
  try simp only [Act.put, List.setIfInBounds_toArray, List.set_cons_zero, List.set_cons_succ]
  refine lv (by kernel_rfl) (some 73) rfl (v := ?_) ?_ ?_
  rotate_left
  · go_simp; (try simp only [IntKind.wrap_u32, IntKind.wrap_i64, Int.reduceAdd, Int.reduceSub, Int.reduceMul, Int.reduceMod, Int.reducePow, Int.reduceNeg]); try with_reducible rfl
  try simp only [Act.put, List.setIfInBounds_toArray, List.set_cons_zero, List.set_cons_succ]
  refine wpList_nil ?_
  go_upto_region 22 with fail
  refine wp_region_lit ?_
  refine lv (by kernel_rfl) (some 74) rfl (v := ?_) ?_ ?_
  rotate_left
  · go_simp; (try simp only [IntKind.wrap_u32, IntKind.wrap_i64, Int.reduceAdd, Int.reduceSub, Int.reduceMul, Int.reduceMod, Int.reducePow, Int.reduceNeg]); try with_reducible rfl
  try simp only [Act.put, List.setIfInBounds_toArray, List.set_cons_zero, List.set_cons_succ]
  refine ly M0 (some 75) rfl (yi_cell 0 24 (.tmp 74) rfl (by kernel_rfl) rfl _ rfl (.int .u32 r) Try.underlying24 rfl rfl) ?_
  try simp only [Act.put, List.setIfInBounds_toArray, List.set_cons_zero, List.set_cons_succ]
  refine lv (by kernel_rfl) (some 76) rfl (v := ?_) ?_ ?_
  rotate_left
  · go_simp; (try simp only [IntKind.wrap_u32, IntKind.wrap_i64, Int.reduceAdd, Int.reduceSub, Int.reduceMul, Int.reduceMod, Int.reducePow, Int.reduceNeg]); try with_reducible rfl
  try simp only [Act.put, List.setIfInBounds_toArray, List.set_cons_zero, List.set_cons_succ]
  refine wpList_nil ?_
  go_upto_region 24 with fail
  refine wp_region_lit ?_
  refine lv (by kernel_rfl) (some 77) rfl (v := ?_) ?_ ?_
  rotate_left
  · go_simp; (try simp only [IntKind.wrap_u32, IntKind.wrap_i64, Int.reduceAdd, Int.reduceSub, Int.reduceMul, Int.reduceMod, Int.reducePow, Int.reduceNeg]); try with_reducible rfl
  try simp only [Act.put, List.setIfInBounds_toArray, List.set_cons_zero, List.set_cons_succ]
  refine ly M0 (some 78) rfl (yi_cell 0 24 (.tmp 77) rfl (by kernel_rfl) rfl _ rfl (.int .u32 r) Try.underlying24 rfl rfl) ?_
  try simp only [Act.put, List.setIfInBounds_toArray, List.set_cons_zero, List.set_cons_succ]
  refine lv (by kernel_rfl) (some 79) rfl (v := ?_) ?_ ?_
  rotate_left
  · go_simp; (try simp only [IntKind.wrap_u32, IntKind.wrap_i64, Int.reduceAdd, Int.reduceSub, Int.reduceMul, Int.reduceMod, Int.reducePow, Int.reduceNeg]); try with_reducible rfl
  try simp only [Act.put, List.setIfInBounds_toArray, List.set_cons_zero, List.set_cons_succ]
  refine lv (by kernel_rfl) (some 80) rfl (v := ?_) ?_ ?_
  rotate_left
  · go_simp; (try simp only [IntKind.wrap_u32, IntKind.wrap_i64, Int.reduceAdd, Int.reduceSub, Int.reduceMul, Int.reduceMod, Int.reducePow, Int.reduceNeg]); try with_reducible rfl
  try simp only [Act.put, List.setIfInBounds_toArray, List.set_cons_zero, List.set_cons_succ]
  refine lv (by kernel_rfl) (some 81) rfl (v := ?_) ?_ ?_
  rotate_left
  · go_simp; (try simp only [IntKind.wrap_u32, IntKind.wrap_i64, Int.reduceAdd, Int.reduceSub, Int.reduceMul, Int.reduceMod, Int.reducePow, Int.reduceNeg]); try with_reducible rfl
  try simp only [Act.put, List.setIfInBounds_toArray, List.set_cons_zero, List.set_cons_succ]
  refine ly M0 (some 82) rfl (yi_cell 0 24 (.tmp 81) rfl (by kernel_rfl) rfl _ rfl (.int .u32 r) Try.underlying24 rfl rfl) ?_
  try simp only [Act.put, List.setIfInBounds_toArray, List.set_cons_zero, List.set_cons_succ]
  refine lv (by kernel_rfl) (some 83) rfl (v := ?_) ?_ ?_
  rotate_left
  · go_simp; (try simp only [IntKind.wrap_u32, IntKind.wrap_i64, Int.reduceAdd, Int.reduceSub, Int.reduceMul, Int.reduceMod, Int.reducePow, Int.reduceNeg]); try with_reducible rfl
  try simp only [Act.put, List.setIfInBounds_toArray, List.set_cons_zero, List.set_cons_succ]
  refine lv (by kernel_rfl) (some 84) rfl (v := ?_) ?_ ?_
  rotate_left
  · go_simp; (try simp only [IntKind.wrap_u32, IntKind.wrap_i64, Int.reduceAdd, Int.reduceSub, Int.reduceMul, Int.reduceMod, Int.reducePow, Int.reduceNeg]); try with_reducible rfl
  try simp only [Act.put, List.setIfInBounds_toArray, List.set_cons_zero, List.set_cons_succ]
  refine wpList_nil ?_
  go_upto_region 25 with fail
  refine wp_region_lit ?_
  refine lv (by kernel_rfl) (some 9) rfl (v := ?_) ?_ ?_
  rotate_left
  · go_simp; (try simp only [IntKind.wrap_u32, IntKind.wrap_i64, Int.reduceAdd, Int.reduceSub, Int.reduceMul, Int.reduceMod, Int.reducePow, Int.reduceNeg]); try with_reducible rfl
  try simp only [Act.put, List.setIfInBounds_toArray, List.set_cons_zero, List.set_cons_succ]
  refine wpList_nil ?_
  go_upto_region 28 with fail
  refine wp_region_lit ?_
  refine lv (by kernel_rfl) (some 93) rfl (v := ?_) ?_ ?_
  rotate_left
  · go_simp; (try simp only [IntKind.wrap_u32, IntKind.wrap_i64, Int.reduceAdd, Int.reduceSub, Int.reduceMul, Int.reduceMod, Int.reducePow, Int.reduceNeg]); try with_reducible rfl
  try simp only [Act.put, List.setIfInBounds_toArray, List.set_cons_zero, List.set_cons_succ]
  refine lv (by kernel_rfl) (some 94) rfl (v := ?_) ?_ ?_
  rotate_left
  · go_simp; (try simp only [IntKind.wrap_u32, IntKind.wrap_i64, Int.reduceAdd, Int.reduceSub, Int.reduceMul, Int.reduceMod, Int.reducePow, Int.reduceNeg]); try with_reducible rfl
  try simp only [Act.put, List.setIfInBounds_toArray, List.set_cons_zero, List.set_cons_succ]
  refine wpList_nil ?_
  go_upto_region 30 with fail
  refine wp_region_lit ?_
  refine lv (by kernel_rfl) (some 96) rfl (v := ?_) ?_ ?_
  rotate_left
  · go_simp; (try simp only [IntKind.wrap_u32, IntKind.wrap_i64, Int.reduceAdd, Int.reduceSub, Int.reduceMul, Int.reduceMod, Int.reducePow, Int.reduceNeg]); try with_reducible rfl
  try simp only [Act.put, List.setIfInBounds_toArray, List.set_cons_zero, List.set_cons_succ]
  refine lv (by kernel_rfl) (some 97) rfl (v := ?_) ?_ ?_
  rotate_left
  · go_simp; (try simp only [IntKind.wrap_u32, IntKind.wrap_i64, Int.reduceAdd, Int.reduceSub, Int.reduceMul, Int.reduceMod, Int.reducePow, Int.reduceNeg]); try with_reducible rfl
  try simp only [Act.put, List.setIfInBounds_toArray, List.set_cons_zero, List.set_cons_succ]
  refine lv (by kernel_rfl) (some 98) rfl (v := ?_) ?_ ?_
  rotate_left
  · go_simp; (try simp only [IntKind.wrap_u32, IntKind.wrap_i64, Int.reduceAdd, Int.reduceSub, Int.reduceMul, Int.reduceMod, Int.reducePow, Int.reduceNeg]); try with_reducible rfl
  try simp only [Act.put, List.setIfInBounds_toArray, List.set_cons_zero, List.set_cons_succ]
  refine lv (by kernel_rfl) (some 99) rfl (v := ?_) ?_ ?_
  rotate_left
  · go_simp; (try simp only [IntKind.wrap_u32, IntKind.wrap_i64, Int.reduceAdd, Int.reduceSub, Int.reduceMul, Int.reduceMod, Int.reducePow, Int.reduceNeg]); try with_reducible rfl
  try simp only [Act.put, List.setIfInBounds_toArray, List.set_cons_zero, List.set_cons_succ]
  refine ly M0 (some 100) rfl (yi_cell 0 9 (.tmp 99) rfl (by kernel_rfl) rfl _ rfl (.string d) Try.underlying9 rfl rfl) ?_
  try simp only [Act.put, List.setIfInBounds_toArray, List.set_cons_zero, List.set_cons_succ]
  refine lv (by kernel_rfl) (some 101) rfl (v := ?_) ?_ ?_
  rotate_left
  · go_simp; (try simp only [IntKind.wrap_u32, IntKind.wrap_i64, Int.reduceAdd, Int.reduceSub, Int.reduceMul, Int.reduceMod, Int.reducePow, Int.reduceNeg]); try with_reducible rfl
  try simp only [Act.put, List.setIfInBounds_toArray, List.set_cons_zero, List.set_cons_succ]
  refine l_store M0 1 (by kernel_rfl) 26 (.tmp 6) _ rfl rfl rfl rfl _ rfl (by kernel_rfl) (by rfl) (by kernel_rfl) _ rfl (fun s1 M1 => ?_)
  clear M0
  try simp only [List.cons_append, List.nil_append, List.set_cons_zero, List.set_cons_succ] at M1
  try simp only [Act.put, List.setIfInBounds_toArray, List.set_cons_zero, List.set_cons_succ]
  refine lv (by kernel_rfl) (some 7) rfl (v := ?_) ?_ ?_
  rotate_left
  · go_simp; (try simp only [IntKind.wrap_u32, IntKind.wrap_i64, Int.reduceAdd, Int.reduceSub, Int.reduceMul, Int.reduceMod, Int.reducePow, Int.reduceNeg]); try with_reducible rfl
  try simp only [Act.put, List.setIfInBounds_toArray, List.set_cons_zero, List.set_cons_succ]
  refine wpList_nil ?_
  go_wp2_with fail
  exact bodyPost_ret (v := retM (some (12, 0, 201326592)) d) (results_cell_tmp rfl (M1.row (i := 1) rfl) _ rfl _ rfl Try.underlying26 rfl (by kernel_rfl)) rfl ⟨rfl, M1.below⟩
set_option maxRecDepth 100000 in
set_option maxHeartbeats 4000000 in
theorem rto4_p24 (k c r : Int) (d : ByteArray) (a b : Int) (w : World) (hs : Sides a b) (h4 : (k == 4) = true) (hk2 : (k == 2) = false) (h0 : (c == 0) = true) (hwr : IntKind.i64.wrap r = r) (l1 : ¬ r ≤ 1) (e4 : (r == 4) = false) (e5 : (r == 5) = false) (e6 : (r == 6) = false) (e7 : (r == 7) = false) (e8 : 8 ≤ r) (e24 : ¬ r < 24) (f24 : 24 ≤ r) (e40 : r < 40) :
    Calls Try.prog 16 #[msgV k c r d, .int .i64 a, .int .i64 b] w fun e w' => e = .returned (retM (some (12, 0, 268435456)) d) ∧ Below w.heap.size w w' := by
  have c24 := fun w => rbounds_t a b w hs
  clear hs

  go_enter Try.func16, Try.ntmps16
  go_upto_region 1 with fail
  have M0 := Mem.two w 26 26 #[.int .i64 k, .int .i64 c, .int .u32 r, .string d] #[.int .i64 0, .int .i64 0, .int .u32 0, .string ⟨#[]⟩]
  refine wp_region_lit ?_
  refine lv (by kernel_rfl) (some 13) rfl (v := ?_) ?_ ?_
  rotate_left
  · go_simp; try with_reducible rfl
  try simp only [Act.put, List.setIfInBounds_toArray, List.set_cons_zero, List.set_cons_succ]
  refine lv (by kernel_rfl) (some 14) rfl (v := ?_) ?_ ?_
  rotate_left
  · go_simp; try with_reducible rfl
  try simp only [Act.put, List.setIfInBounds_toArray, List.set_cons_zero, List.set_cons_succ]
  refine l_same (by kernel_rfl) (some 15) rfl (c24 _) (by kernel_rfl) ?_
  try simp only [Act.put, List.setIfInBounds_toArray, List.set_cons_zero, List.set_cons_succ]
  refine lv (by kernel_rfl) (some 16) rfl (v := ?_) ?_ ?_
  rotate_left
  · go_simp; try with_reducible rfl
  try simp only [Act.put, List.setIfInBounds_toArray, List.set_cons_zero, List.set_cons_succ]
  refine wpList_nil ?_
  go_upto_region 3 with fail
  refine wp_region_lit ?_
  refine lv (by kernel_rfl) (some 18) rfl (v := ?_) ?_ ?_
  rotate_left
  · go_simp; try with_reducible rfl
  try simp only [Act.put, List.setIfInBounds_toArray, List.set_cons_zero, List.set_cons_succ]
  refine ly M0 (some 19) rfl (yi_cell 0 3 (.tmp 18) rfl (by kernel_rfl) rfl _ rfl (.int .i64 k) Try.underlying3 rfl rfl) ?_
  try simp only [Act.put, List.setIfInBounds_toArray, List.set_cons_zero, List.set_cons_succ]
  refine lv (by kernel_rfl) (some 20) rfl (v := ?_) ?_ ?_
  rotate_left
  · go_simp; try with_reducible rfl
  try simp only [Act.put, List.setIfInBounds_toArray, List.set_cons_zero, List.set_cons_succ]
  refine lv (by kernel_rfl) (some 21) rfl (v := ?_) ?_ ?_
  rotate_left
  · go_simp; try with_reducible rfl
  try simp only [Act.put, List.setIfInBounds_toArray, List.set_cons_zero, List.set_cons_succ]
  with_reducible refine lu (by kernel_rfl) (some 22) rfl ?_
  try simp only [Act.put, List.setIfInBounds_toArray, List.set_cons_zero, List.set_cons_succ]
  with_reducible refine lu (by kernel_rfl) (some 23) rfl ?_
  try simp only [Act.put, List.setIfInBounds_toArray, List.set_cons_zero, List.set_cons_succ]
  with_reducible refine lu (by kernel_rfl) (some 24) rfl ?_
  try simp only [Act.put, List.setIfInBounds_toArray, List.set_cons_zero, List.set_cons_succ]
  refine lv (by kernel_rfl) (some 25) rfl (v := ?_) ?_ ?_
  rotate_left
  · go_simp; try with_reducible rfl
  try simp only [Act.put, List.setIfInBounds_toArray, List.set_cons_zero, List.set_cons_succ]
  refine wpList_nil ?_
  go_upto_region 14 with fail
  refine wp_region_lit ?_
  refine lv (by kernel_rfl) (some 49) rfl (v := ?_) ?_ ?_
  rotate_left
  · go_simp; try with_reducible rfl
  try simp only [Act.put, List.setIfInBounds_toArray, List.set_cons_zero, List.set_cons_succ]
  refine ly M0 (some 50) rfl (yi_cell 0 3 (.tmp 49) rfl (by kernel_rfl) rfl _ rfl (.int .i64 k) Try.underlying3 rfl rfl) ?_
  try simp only [Act.put, List.setIfInBounds_toArray, List.set_cons_zero, List.set_cons_succ]
  refine lv (by kernel_rfl) (some 51) rfl (v := ?_) ?_ ?_
  rotate_left
  · go_simp; try with_reducible rfl
  try simp only [Act.put, List.setIfInBounds_toArray, List.set_cons_zero, List.set_cons_succ]
  refine lv (by kernel_rfl) (some 52) rfl (v := ?_) ?_ ?_
  rotate_left
  · go_simp; try with_reducible rfl
  try simp only [Act.put, List.setIfInBounds_toArray, List.set_cons_zero, List.set_cons_succ]
  refine lv (by kernel_rfl) (some 53) rfl (v := ?_) ?_ ?_
  rotate_left
  · go_simp; try with_reducible rfl
  try simp only [Act.put, List.setIfInBounds_toArray, List.set_cons_zero, List.set_cons_succ]
  refine ly M0 (some 54) rfl (yi_cell 0 3 (.tmp 53) rfl (by kernel_rfl) rfl _ rfl (.int .i64 c) Try.underlying3 rfl rfl) ?_
  try simp only [Act.put, List.setIfInBounds_toArray, List.set_cons_zero, List.set_cons_succ]
  refine lv (by kernel_rfl) (some 55) rfl (v := ?_) ?_ ?_
  rotate_left
  · go_simp; try with_reducible rfl
  try simp only [Act.put, List.setIfInBounds_toArray, List.set_cons_zero, List.set_cons_succ]
  refine lv (by kernel_rfl) (some 56) rfl (v := ?_) ?_ ?_
  rotate_left
  · go_simp; try with_reducible rfl
  try simp only [Act.put, List.setIfInBounds_toArray, List.set_cons_zero, List.set_cons_succ]
  refine wpList_nil ?_
  go_upto_region 15 with fail
  refine wp_region_lit ?_
  refine lv (by kernel_rfl) (some 9) rfl (v := ?_) ?_ ?_
  rotate_left
  · go_simp; (try simp only [IntKind.wrap_u32, IntKind.wrap_i64, Int.reduceAdd, Int.reduceSub, Int.reduceMul, Int.reduceMod, Int.reducePow, Int.reduceNeg]); try with_reducible rfl
  try simp only [Act.put, List.setIfInBounds_toArray, List.set_cons_zero, List.set_cons_succ]
  refine wpList_nil ?_
  go_upto_region 16 with fail
  refine wp_region_lit ?_
  refine lv (by kernel_rfl) (some 57) rfl (v := ?_) ?_ ?_
  rotate_left
  · go_simp; (try simp only [IntKind.wrap_u32, IntKind.wrap_i64, Int.reduceAdd, Int.reduceSub, Int.reduceMul, Int.reduceMod, Int.reducePow, Int.reduceNeg]); try with_reducible rfl
  try simp only [Act.put, List.setIfInBounds_toArray, List.set_cons_zero, List.set_cons_succ]
  refine ly M0 (some 58) rfl (yi_cell 0 24 (.tmp 57) rfl (by kernel_rfl) rfl _ rfl (.int .u32 r) Try.underlying24 rfl rfl) ?_
  try simp only [Act.put, List.setIfInBounds_toArray, List.set_cons_zero, List.set_cons_succ]
  refine lv (by kernel_rfl) (some 59) rfl (v := ?_) ?_ ?_
  rotate_left
  · go_simp; (try simp only [IntKind.wrap_u32, IntKind.wrap_i64, Int.reduceAdd, Int.reduceSub, Int.reduceMul, Int.reduceMod, Int.reducePow, Int.reduceNeg]); try with_reducible rfl
  try simp only [Act.put, List.setIfInBounds_toArray, List.set_cons_zero, List.set_cons_succ]
  refine wpList_nil ?_
  go_upto_region 18 with fail
  refine wp_region_lit ?_
  refine lv (by kernel_rfl) (some 63) rfl (v := ?_) ?_ ?_
  rotate_left
  · go_simp; (try simp only [IntKind.wrap_u32, IntKind.wrap_i64, Int.reduceAdd, Int.reduceSub, Int.reduceMul, Int.reduceMod, Int.reducePow, Int.reduceNeg]); try with_reducible rfl
  try simp only [Act.put, List.setIfInBounds_toArray, List.set_cons_zero, List.set_cons_succ]
  refine ly M0 (some 64) rfl (yi_cell 0 24 (.tmp 63) rfl (by kernel_rfl) rfl _ rfl (.int .u32 r) Try.underlying24 rfl rfl) ?_
  try simp only [Act.put, List.setIfInBounds_toArray, List.set_cons_zero, List.set_cons_succ]
  refine lv (by kernel_rfl) (some 65) rfl (v := ?_) ?_ ?_
  rotate_left
  · go_simp; (try simp only [IntKind.wrap_u32, IntKind.wrap_i64, Int.reduceAdd, Int.reduceSub, Int.reduceMul, Int.reduceMod, Int.reducePow, Int.reduceNeg]); try with_reducible rfl
  try simp only [Act.put, List.setIfInBounds_toArray, List.set_cons_zero, List.set_cons_succ]
  refine lv (by kernel_rfl) (some 66) rfl (v := ?_) ?_ ?_
  rotate_left
  · go_simp; (try simp only [IntKind.wrap_u32, IntKind.wrap_i64, Int.reduceAdd, Int.reduceSub, Int.reduceMul, Int.reduceMod, Int.reducePow, Int.reduceNeg]); try with_reducible rfl
  try simp only [Act.put, List.setIfInBounds_toArray, List.set_cons_zero, List.set_cons_succ]
  refine lv (by kernel_rfl) (some 67) rfl (v := ?_) ?_ ?_
  rotate_left
  · go_simp; (try simp only [IntKind.wrap_u32, IntKind.wrap_i64, Int.reduceAdd, Int.reduceSub, Int.reduceMul, Int.reduceMod, Int.reducePow, Int.reduceNeg]); try with_reducible rfl
  try simp only [Act.put, List.setIfInBounds_toArray, List.set_cons_zero, List.set_cons_succ]
  refine ly M0 (some 68) rfl (yi_cell 0 24 (.tmp 67) rfl (by kernel_rfl) rfl _ rfl (.int .u32 r) Try.underlying24 rfl rfl) ?_
  try simp only [Act.put, List.setIfInBounds_toArray, List.set_cons_zero, List.set_cons_succ]
  refine lv (by kernel_rfl) (some 69) rfl (v := ?_) ?_ ?_
  rotate_left
  · go_simp; (try simp only [IntKind.wrap_u32, IntKind.wrap_i64, Int.reduceAdd, Int.reduceSub, Int.reduceMul, Int.reduceMod, Int.reducePow, Int.reduceNeg]); try with_reducible rfl
  try simp only [Act.put, List.setIfInBounds_toArray, List.set_cons_zero, List.set_cons_succ]
  refine lv (by kernel_rfl) (some 70) rfl (v := ?_) ?_ ?_
  rotate_left
  · go_simp; (try simp only [IntKind.wrap_u32, IntKind.wrap_i64, Int.reduceAdd, Int.reduceSub, Int.reduceMul, Int.reduceMod, Int.reducePow, Int.reduceNeg]); try with_reducible rfl
  try simp only [Act.put, List.setIfInBounds_toArray, List.set_cons_zero, List.set_cons_succ]
  refine wpList_nil ?_
  go_upto_region 20 with fail
  refine wp_region_lit ?_
  refine lv (by kernel_rfl) (some 71) rfl (v := ?_) ?_ ?_
  rotate_left
  · go_simp; (try simp only [IntKind.wrap_u32, IntKind.wrap_i64, Int.reduceAdd, Int.reduceSub, Int.reduceMul, Int.reduceMod, Int.reducePow, Int.reduceNeg]); try with_reducible rfl
  try simp only [Act.put, List.setIfInBounds_toArray, List.set_cons_zero, List.set_cons_succ]
  refine ly M0 (some 72) rfl (yi_cell 0 24 (.tmp 71) rfl (by kernel_rfl) rfl _ rfl (.int .u32 r) Try.underlying24 rfl rfl) ?_
  try simp only [Act.put, List.setIfInBounds_toArray, List.set_cons_zero, List.set_cons_succ]
  refine lv (by kernel_rfl) (some 73) rfl (v := ?_) ?_ ?_
  rotate_left
  · go_simp; (try simp only [IntKind.wrap_u32, IntKind.wrap_i64, Int.reduceAdd, Int.reduceSub, Int.reduceMul, Int.reduceMod, Int.reducePow, Int.reduceNeg]); try with_reducible rfl
  try simp only [Act.put, List.setIfInBounds_toArray, List.set_cons_zero, List.set_cons_succ]
  refine wpList_nil ?_
  go_upto_region 22 with fail
  refine wp_region_lit ?_
  refine lv (by kernel_rfl) (some 74) rfl (v := ?_) ?_ ?_
  rotate_left
  · go_simp; (try simp only [IntKind.wrap_u32, IntKind.wrap_i64, Int.reduceAdd, Int.reduceSub, Int.reduceMul, Int.reduceMod, Int.reducePow, Int.reduceNeg]); try with_reducible rfl
  try simp only [Act.put, List.setIfInBounds_toArray, List.set_cons_zero, List.set_cons_succ]
  refine ly M0 (some 75) rfl (yi_cell 0 24 (.tmp 74) rfl (by kernel_rfl) rfl _ rfl (.int .u32 r) Try.underlying24 rfl rfl) ?_
  try simp only [Act.put, List.setIfInBounds_toArray, List.set_cons_zero, List.set_cons_succ]
  refine lv (by kernel_rfl) (some 76) rfl (v := ?_) ?_ ?_
  rotate_left
  · go_simp; (try simp only [IntKind.wrap_u32, IntKind.wrap_i64, Int.reduceAdd, Int.reduceSub, Int.reduceMul, Int.reduceMod, Int.reducePow, Int.reduceNeg]); try with_reducible rfl
  try simp only [Act.put, List.setIfInBounds_toArray, List.set_cons_zero, List.set_cons_succ]
  refine wpList_nil ?_
  go_upto_region 24 with fail
  refine wp_region_lit ?_
  refine lv (by kernel_rfl) (some 77) rfl (v := ?_) ?_ ?_
  rotate_left
  · go_simp; (try simp only [IntKind.wrap_u32, IntKind.wrap_i64, Int.reduceAdd, Int.reduceSub, Int.reduceMul, Int.reduceMod, Int.reducePow, Int.reduceNeg]); try with_reducible rfl
  try simp only [Act.put, List.setIfInBounds_toArray, List.set_cons_zero, List.set_cons_succ]
  refine ly M0 (some 78) rfl (yi_cell 0 24 (.tmp 77) rfl (by kernel_rfl) rfl _ rfl (.int .u32 r) Try.underlying24 rfl rfl) ?_
  try simp only [Act.put, List.setIfInBounds_toArray, List.set_cons_zero, List.set_cons_succ]
  refine lv (by kernel_rfl) (some 79) rfl (v := ?_) ?_ ?_
  rotate_left
  · go_simp; (try simp only [IntKind.wrap_u32, IntKind.wrap_i64, Int.reduceAdd, Int.reduceSub, Int.reduceMul, Int.reduceMod, Int.reducePow, Int.reduceNeg]); try with_reducible rfl
  try simp only [Act.put, List.setIfInBounds_toArray, List.set_cons_zero, List.set_cons_succ]
  refine lv (by kernel_rfl) (some 80) rfl (v := ?_) ?_ ?_
  rotate_left
  · go_simp; (try simp only [IntKind.wrap_u32, IntKind.wrap_i64, Int.reduceAdd, Int.reduceSub, Int.reduceMul, Int.reduceMod, Int.reducePow, Int.reduceNeg]); try with_reducible rfl
  try simp only [Act.put, List.setIfInBounds_toArray, List.set_cons_zero, List.set_cons_succ]
  refine lv (by kernel_rfl) (some 81) rfl (v := ?_) ?_ ?_
  rotate_left
  · go_simp; (try simp only [IntKind.wrap_u32, IntKind.wrap_i64, Int.reduceAdd, Int.reduceSub, Int.reduceMul, Int.reduceMod, Int.reducePow, Int.reduceNeg]); try with_reducible rfl
  try simp only [Act.put, List.setIfInBounds_toArray, List.set_cons_zero, List.set_cons_succ]
  refine ly M0 (some 82) rfl (yi_cell 0 24 (.tmp 81) rfl (by kernel_rfl) rfl _ rfl (.int .u32 r) Try.underlying24 rfl rfl) ?_
  try simp only [Act.put, List.setIfInBounds_toArray, List.set_cons_zero, List.set_cons_succ]
  refine lv (by kernel_rfl) (some 83) rfl (v := ?_) ?_ ?_
  rotate_left
  · go_simp; (try simp only [IntKind.wrap_u32, IntKind.wrap_i64, Int.reduceAdd, Int.reduceSub, Int.reduceMul, Int.reduceMod, Int.reducePow, Int.reduceNeg]); try with_reducible rfl
  try simp only [Act.put, List.setIfInBounds_toArray, List.set_cons_zero, List.set_cons_succ]
  refine lv (by kernel_rfl) (some 84) rfl (v := ?_) ?_ ?_
  rotate_left
  · go_simp; (try simp only [IntKind.wrap_u32, IntKind.wrap_i64, Int.reduceAdd, Int.reduceSub, Int.reduceMul, Int.reduceMod, Int.reducePow, Int.reduceNeg]); try with_reducible rfl
  try simp only [Act.put, List.setIfInBounds_toArray, List.set_cons_zero, List.set_cons_succ]
  refine wpList_nil ?_
  go_upto_region 26 with fail
  refine wp_region_lit ?_
  refine lv (by kernel_rfl) (some 85) rfl (v := ?_) ?_ ?_
  rotate_left
  · go_simp; (try simp only [IntKind.wrap_u32, IntKind.wrap_i64, Int.reduceAdd, Int.reduceSub, Int.reduceMul, Int.reduceMod, Int.reducePow, Int.reduceNeg]); try with_reducible rfl
  try simp only [Act.put, List.setIfInBounds_toArray, List.set_cons_zero, List.set_cons_succ]
  refine ly M0 (some 86) rfl (yi_cell 0 24 (.tmp 85) rfl (by kernel_rfl) rfl _ rfl (.int .u32 r) Try.underlying24 rfl rfl) ?_
  try simp only [Act.put, List.setIfInBounds_toArray, List.set_cons_zero, List.set_cons_succ]
  refine lv (by kernel_rfl) (some 87) rfl (v := ?_) ?_ ?_
  rotate_left
  · go_simp; (try simp only [IntKind.wrap_u32, IntKind.wrap_i64, Int.reduceAdd, Int.reduceSub, Int.reduceMul, Int.reduceMod, Int.reducePow, Int.reduceNeg]); try with_reducible rfl
  try simp only [Act.put, List.setIfInBounds_toArray, List.set_cons_zero, List.set_cons_succ]
  refine lv (by kernel_rfl) (some 88) rfl (v := ?_) ?_ ?_
  rotate_left
  · go_simp; (try simp only [IntKind.wrap_u32, IntKind.wrap_i64, Int.reduceAdd, Int.reduceSub, Int.reduceMul, Int.reduceMod, Int.reducePow, Int.reduceNeg]); try with_reducible rfl
  try simp only [Act.put, List.setIfInBounds_toArray, List.set_cons_zero, List.set_cons_succ]
  refine lv (by kernel_rfl) (some 89) rfl (v := ?_) ?_ ?_
  rotate_left
  · go_simp; (try simp only [IntKind.wrap_u32, IntKind.wrap_i64, Int.reduceAdd, Int.reduceSub, Int.reduceMul, Int.reduceMod, Int.reducePow, Int.reduceNeg]); try with_reducible rfl
  try simp only [Act.put, List.setIfInBounds_toArray, List.set_cons_zero, List.set_cons_succ]
  refine ly M0 (some 90) rfl (yi_cell 0 24 (.tmp 89) rfl (by kernel_rfl) rfl _ rfl (.int .u32 r) Try.underlying24 rfl rfl) ?_
  try simp only [Act.put, List.setIfInBounds_toArray, List.set_cons_zero, List.set_cons_succ]
  refine lv (by kernel_rfl) (some 91) rfl (v := ?_) ?_ ?_
  rotate_left
  · go_simp; (try simp only [IntKind.wrap_u32, IntKind.wrap_i64, Int.reduceAdd, Int.reduceSub, Int.reduceMul, Int.reduceMod, Int.reducePow, Int.reduceNeg]); try with_reducible rfl
  try simp only [Act.put, List.setIfInBounds_toArray, List.set_cons_zero, List.set_cons_succ]
  refine lv (by kernel_rfl) (some 92) rfl (v := ?_) ?_ ?_
  rotate_left
  · go_simp; (try simp only [IntKind.wrap_u32, IntKind.wrap_i64, Int.reduceAdd, Int.reduceSub, Int.reduceMul, Int.reduceMod, Int.reducePow, Int.reduceNeg]); try with_reducible rfl
  try simp only [Act.put, List.setIfInBounds_toArray, List.set_cons_zero, List.set_cons_succ]
  refine wpList_nil ?_
  go_upto_region 27 with fail
  refine wp_region_lit ?_
  refine lv (by kernel_rfl) (some 9) rfl (v := ?_) ?_ ?_
  rotate_left
  · go_simp; (try simp only [IntKind.wrap_u32, IntKind.wrap_i64, Int.reduceAdd, Int.reduceSub, Int.reduceMul, Int.reduceMod, Int.reducePow, Int.reduceNeg]); try with_reducible rfl
  try simp only [Act.put, List.setIfInBounds_toArray, List.set_cons_zero, List.set_cons_succ]
  refine wpList_nil ?_
  go_upto_region 28 with fail
  refine wp_region_lit ?_
  refine lv (by kernel_rfl) (some 93) rfl (v := ?_) ?_ ?_
  rotate_left
  · go_simp; (try simp only [IntKind.wrap_u32, IntKind.wrap_i64, Int.reduceAdd, Int.reduceSub, Int.reduceMul, Int.reduceMod, Int.reducePow, Int.reduceNeg]); try with_reducible rfl
  try simp only [Act.put, List.setIfInBounds_toArray, List.set_cons_zero, List.set_cons_succ]
  refine lv (by kernel_rfl) (some 94) rfl (v := ?_) ?_ ?_
  rotate_left
  · go_simp; (try simp only [IntKind.wrap_u32, IntKind.wrap_i64, Int.reduceAdd, Int.reduceSub, Int.reduceMul, Int.reduceMod, Int.reducePow, Int.reduceNeg]); try with_reducible rfl
  try simp only [Act.put, List.setIfInBounds_toArray, List.set_cons_zero, List.set_cons_succ]
  refine wpList_nil ?_
  go_upto_region 30 with fail
  refine wp_region_lit ?_
  refine lv (by kernel_rfl) (some 96) rfl (v := ?_) ?_ ?_
  rotate_left
  · go_simp; (try simp only [IntKind.wrap_u32, IntKind.wrap_i64, Int.reduceAdd, Int.reduceSub, Int.reduceMul, Int.reduceMod, Int.reducePow, Int.reduceNeg]); try with_reducible rfl
  try simp only [Act.put, List.setIfInBounds_toArray, List.set_cons_zero, List.set_cons_succ]
  refine lv (by kernel_rfl) (some 97) rfl (v := ?_) ?_ ?_
  rotate_left
  · go_simp; (try simp only [IntKind.wrap_u32, IntKind.wrap_i64, Int.reduceAdd, Int.reduceSub, Int.reduceMul, Int.reduceMod, Int.reducePow, Int.reduceNeg]); try with_reducible rfl
  try simp only [Act.put, List.setIfInBounds_toArray, List.set_cons_zero, List.set_cons_succ]
  refine lv (by kernel_rfl) (some 98) rfl (v := ?_) ?_ ?_
  rotate_left
  · go_simp; (try simp only [IntKind.wrap_u32, IntKind.wrap_i64, Int.reduceAdd, Int.reduceSub, Int.reduceMul, Int.reduceMod, Int.reducePow, Int.reduceNeg]); try with_reducible rfl
  try simp only [Act.put, List.setIfInBounds_toArray, List.set_cons_zero, List.set_cons_succ]
  refine lv (by kernel_rfl) (some 99) rfl (v := ?_) ?_ ?_
  rotate_left
  · go_simp; (try simp only [IntKind.wrap_u32, IntKind.wrap_i64, Int.reduceAdd, Int.reduceSub, Int.reduceMul, Int.reduceMod, Int.reducePow, Int.reduceNeg]); try with_reducible rfl
  try simp only [Act.put, List.setIfInBounds_toArray, List.set_cons_zero, List.set_cons_succ]
  refine ly M0 (some 100) rfl (yi_cell 0 9 (.tmp 99) rfl (by kernel_rfl) rfl _ rfl (.string d) Try.underlying9 rfl rfl) ?_
  try simp only [Act.put, List.setIfInBounds_toArray, List.set_cons_zero, List.set_cons_succ]
  refine lv (by kernel_rfl) (some 101) rfl (v := ?_) ?_ ?_
  rotate_left
  · go_simp; (try simp only [IntKind.wrap_u32, IntKind.wrap_i64, Int.reduceAdd, Int.reduceSub, Int.reduceMul, Int.reduceMod, Int.reducePow, Int.reduceNeg]); try with_reducible rfl
  try simp only [Act.put, List.setIfInBounds_toArray, List.set_cons_zero, List.set_cons_succ]
  refine l_store M0 1 (by kernel_rfl) 26 (.tmp 6) _ rfl rfl rfl rfl _ rfl (by kernel_rfl) (by rfl) (by kernel_rfl) _ rfl (fun s1 M1 => ?_)
  clear M0
  try simp only [List.cons_append, List.nil_append, List.set_cons_zero, List.set_cons_succ] at M1
  try simp only [Act.put, List.setIfInBounds_toArray, List.set_cons_zero, List.set_cons_succ]
  refine lv (by kernel_rfl) (some 7) rfl (v := ?_) ?_ ?_
  rotate_left
  · go_simp; (try simp only [IntKind.wrap_u32, IntKind.wrap_i64, Int.reduceAdd, Int.reduceSub, Int.reduceMul, Int.reduceMod, Int.reducePow, Int.reduceNeg]); try with_reducible rfl
  try simp only [Act.put, List.setIfInBounds_toArray, List.set_cons_zero, List.set_cons_succ]
  refine wpList_nil ?_
  go_wp2_with fail
  exact bodyPost_ret (v := retM (some (12, 0, 268435456)) d) (results_cell_tmp rfl (M1.row (i := 1) rfl) _ rfl _ rfl Try.underlying26 rfl (by kernel_rfl)) rfl ⟨rfl, M1.below⟩
set_option maxRecDepth 100000 in
set_option maxHeartbeats 4000000 in
theorem rto4_pfar (k c r : Int) (d : ByteArray) (a b : Int) (w : World) (hs : Sides a b) (h4 : (k == 4) = true) (hk2 : (k == 2) = false) (h0 : (c == 0) = true) (hwr : IntKind.i64.wrap r = r) (l1 : ¬ r ≤ 1) (e4 : (r == 4) = false) (e5 : (r == 5) = false) (e6 : (r == 6) = false) (e7 : (r == 7) = false) (e8 : 8 ≤ r) (e24 : ¬ r < 24) (f24 : 24 ≤ r) (e40 : ¬ r < 40) :
    Calls Try.prog 16 #[msgV k c r d, .int .i64 a, .int .i64 b] w fun e w' => e = .returned (retM (none) d) ∧ Below w.heap.size w w' := by
  have c24 := fun w => rbounds_t a b w hs
  clear hs

  go_enter Try.func16, Try.ntmps16
  go_upto_region 1 with fail
  have M0 := Mem.two w 26 26 #[.int .i64 k, .int .i64 c, .int .u32 r, .string d] #[.int .i64 0, .int .i64 0, .int .u32 0, .string ⟨#[]⟩]
  refine wp_region_lit ?_
  refine lv (by kernel_rfl) (some 13) rfl (v := ?_) ?_ ?_
  rotate_left
  · go_simp; try with_reducible rfl
  try simp only [Act.put, List.setIfInBounds_toArray, List.set_cons_zero, List.set_cons_succ]
  refine lv (by kernel_rfl) (some 14) rfl (v := ?_) ?_ ?_
  rotate_left
  · go_simp; try with_reducible rfl
  try simp only [Act.put, List.setIfInBounds_toArray, List.set_cons_zero, List.set_cons_succ]
  refine l_same (by kernel_rfl) (some 15) rfl (c24 _) (by kernel_rfl) ?_
  try simp only [Act.put, List.setIfInBounds_toArray, List.set_cons_zero, List.set_cons_succ]
  refine lv (by kernel_rfl) (some 16) rfl (v := ?_) ?_ ?_
  rotate_left
  · go_simp; try with_reducible rfl
  try simp only [Act.put, List.setIfInBounds_toArray, List.set_cons_zero, List.set_cons_succ]
  refine wpList_nil ?_
  go_upto_region 3 with fail
  refine wp_region_lit ?_
  refine lv (by kernel_rfl) (some 18) rfl (v := ?_) ?_ ?_
  rotate_left
  · go_simp; try with_reducible rfl
  try simp only [Act.put, List.setIfInBounds_toArray, List.set_cons_zero, List.set_cons_succ]
  refine ly M0 (some 19) rfl (yi_cell 0 3 (.tmp 18) rfl (by kernel_rfl) rfl _ rfl (.int .i64 k) Try.underlying3 rfl rfl) ?_
  try simp only [Act.put, List.setIfInBounds_toArray, List.set_cons_zero, List.set_cons_succ]
  refine lv (by kernel_rfl) (some 20) rfl (v := ?_) ?_ ?_
  rotate_left
  · go_simp; try with_reducible rfl
  try simp only [Act.put, List.setIfInBounds_toArray, List.set_cons_zero, List.set_cons_succ]
  refine lv (by kernel_rfl) (some 21) rfl (v := ?_) ?_ ?_
  rotate_left
  · go_simp; try with_reducible rfl
  try simp only [Act.put, List.setIfInBounds_toArray, List.set_cons_zero, List.set_cons_succ]
  with_reducible refine lu (by kernel_rfl) (some 22) rfl ?_
  try simp only [Act.put, List.setIfInBounds_toArray, List.set_cons_zero, List.set_cons_succ]
  with_reducible refine lu (by kernel_rfl) (some 23) rfl ?_
  try simp only [Act.put, List.setIfInBounds_toArray, List.set_cons_zero, List.set_cons_succ]
  with_reducible refine lu (by kernel_rfl) (some 24) rfl ?_
  try simp only [Act.put, List.setIfInBounds_toArray, List.set_cons_zero, List.set_cons_succ]
  refine lv (by kernel_rfl) (some 25) rfl (v := ?_) ?_ ?_
  rotate_left
  · go_simp; try with_reducible rfl
  try simp only [Act.put, List.setIfInBounds_toArray, List.set_cons_zero, List.set_cons_succ]
  refine wpList_nil ?_
  go_upto_region 14 with fail
  refine wp_region_lit ?_
  refine lv (by kernel_rfl) (some 49) rfl (v := ?_) ?_ ?_
  rotate_left
  · go_simp; try with_reducible rfl
  try simp only [Act.put, List.setIfInBounds_toArray, List.set_cons_zero, List.set_cons_succ]
  refine ly M0 (some 50) rfl (yi_cell 0 3 (.tmp 49) rfl (by kernel_rfl) rfl _ rfl (.int .i64 k) Try.underlying3 rfl rfl) ?_
  try simp only [Act.put, List.setIfInBounds_toArray, List.set_cons_zero, List.set_cons_succ]
  refine lv (by kernel_rfl) (some 51) rfl (v := ?_) ?_ ?_
  rotate_left
  · go_simp; try with_reducible rfl
  try simp only [Act.put, List.setIfInBounds_toArray, List.set_cons_zero, List.set_cons_succ]
  refine lv (by kernel_rfl) (some 52) rfl (v := ?_) ?_ ?_
  rotate_left
  · go_simp; try with_reducible rfl
  try simp only [Act.put, List.setIfInBounds_toArray, List.set_cons_zero, List.set_cons_succ]
  refine lv (by kernel_rfl) (some 53) rfl (v := ?_) ?_ ?_
  rotate_left
  · go_simp; try with_reducible rfl
  try simp only [Act.put, List.setIfInBounds_toArray, List.set_cons_zero, List.set_cons_succ]
  refine ly M0 (some 54) rfl (yi_cell 0 3 (.tmp 53) rfl (by kernel_rfl) rfl _ rfl (.int .i64 c) Try.underlying3 rfl rfl) ?_
  try simp only [Act.put, List.setIfInBounds_toArray, List.set_cons_zero, List.set_cons_succ]
  refine lv (by kernel_rfl) (some 55) rfl (v := ?_) ?_ ?_
  rotate_left
  · go_simp; try with_reducible rfl
  try simp only [Act.put, List.setIfInBounds_toArray, List.set_cons_zero, List.set_cons_succ]
  refine lv (by kernel_rfl) (some 56) rfl (v := ?_) ?_ ?_
  rotate_left
  · go_simp; try with_reducible rfl
  try simp only [Act.put, List.setIfInBounds_toArray, List.set_cons_zero, List.set_cons_succ]
  refine wpList_nil ?_
  go_upto_region 15 with fail
  refine wp_region_lit ?_
  refine lv (by kernel_rfl) (some 9) rfl (v := ?_) ?_ ?_
  rotate_left
  · go_simp; (try simp only [IntKind.wrap_u32, IntKind.wrap_i64, Int.reduceAdd, Int.reduceSub, Int.reduceMul, Int.reduceMod, Int.reducePow, Int.reduceNeg]); try with_reducible rfl
  try simp only [Act.put, List.setIfInBounds_toArray, List.set_cons_zero, List.set_cons_succ]
  refine wpList_nil ?_
  go_upto_region 16 with fail
  refine wp_region_lit ?_
  refine lv (by kernel_rfl) (some 57) rfl (v := ?_) ?_ ?_
  rotate_left
  · go_simp; (try simp only [IntKind.wrap_u32, IntKind.wrap_i64, Int.reduceAdd, Int.reduceSub, Int.reduceMul, Int.reduceMod, Int.reducePow, Int.reduceNeg]); try with_reducible rfl
  try simp only [Act.put, List.setIfInBounds_toArray, List.set_cons_zero, List.set_cons_succ]
  refine ly M0 (some 58) rfl (yi_cell 0 24 (.tmp 57) rfl (by kernel_rfl) rfl _ rfl (.int .u32 r) Try.underlying24 rfl rfl) ?_
  try simp only [Act.put, List.setIfInBounds_toArray, List.set_cons_zero, List.set_cons_succ]
  refine lv (by kernel_rfl) (some 59) rfl (v := ?_) ?_ ?_
  rotate_left
  · go_simp; (try simp only [IntKind.wrap_u32, IntKind.wrap_i64, Int.reduceAdd, Int.reduceSub, Int.reduceMul, Int.reduceMod, Int.reducePow, Int.reduceNeg]); try with_reducible rfl
  try simp only [Act.put, List.setIfInBounds_toArray, List.set_cons_zero, List.set_cons_succ]
  refine wpList_nil ?_
  go_upto_region 18 with fail
  refine wp_region_lit ?_
  refine lv (by kernel_rfl) (some 63) rfl (v := ?_) ?_ ?_
  rotate_left
  · go_simp; (try simp only [IntKind.wrap_u32, IntKind.wrap_i64, Int.reduceAdd, Int.reduceSub, Int.reduceMul, Int.reduceMod, Int.reducePow, Int.reduceNeg]); try with_reducible rfl
  try simp only [Act.put, List.setIfInBounds_toArray, List.set_cons_zero, List.set_cons_succ]
  refine ly M0 (some 64) rfl (yi_cell 0 24 (.tmp 63) rfl (by kernel_rfl) rfl _ rfl (.int .u32 r) Try.underlying24 rfl rfl) ?_
  try simp only [Act.put, List.setIfInBounds_toArray, List.set_cons_zero, List.set_cons_succ]
  refine lv (by kernel_rfl) (some 65) rfl (v := ?_) ?_ ?_
  rotate_left
  · go_simp; (try simp only [IntKind.wrap_u32, IntKind.wrap_i64, Int.reduceAdd, Int.reduceSub, Int.reduceMul, Int.reduceMod, Int.reducePow, Int.reduceNeg]); try with_reducible rfl
  try simp only [Act.put, List.setIfInBounds_toArray, List.set_cons_zero, List.set_cons_succ]
  refine lv (by kernel_rfl) (some 66) rfl (v := ?_) ?_ ?_
  rotate_left
  · go_simp; (try simp only [IntKind.wrap_u32, IntKind.wrap_i64, Int.reduceAdd, Int.reduceSub, Int.reduceMul, Int.reduceMod, Int.reducePow, Int.reduceNeg]); try with_reducible rfl
  try simp only [Act.put, List.setIfInBounds_toArray, List.set_cons_zero, List.set_cons_succ]
  refine lv (by kernel_rfl) (some 67) rfl (v := ?_) ?_ ?_
  rotate_left
  · go_simp; (try simp only [IntKind.wrap_u32, IntKind.wrap_i64, Int.reduceAdd, Int.reduceSub, Int.reduceMul, Int.reduceMod, Int.reducePow, Int.reduceNeg]); try with_reducible rfl
  try simp only [Act.put, List.setIfInBounds_toArray, List.set_cons_zero, List.set_cons_succ]
  refine ly M0 (some 68) rfl (yi_cell 0 24 (.tmp 67) rfl (by kernel_rfl) rfl _ rfl (.int .u32 r) Try.underlying24 rfl rfl) ?_
  try simp only [Act.put, List.setIfInBounds_toArray, List.set_cons_zero, List.set_cons_succ]
  refine lv (by kernel_rfl) (some 69) rfl (v := ?_) ?_ ?_
  rotate_left
  · go_simp; (try simp only [IntKind.wrap_u32, IntKind.wrap_i64, Int.reduceAdd, Int.reduceSub, Int.reduceMul, Int.reduceMod, Int.reducePow, Int.reduceNeg]); try with_reducible rfl
  try simp only [Act.put, List.setIfInBounds_toArray, List.set_cons_zero, List.set_cons_succ]
  refine lv (by kernel_rfl) (some 70) rfl (v := ?_) ?_ ?_
  rotate_left
  · go_simp; (try simp only [IntKind.wrap_u32, IntKind.wrap_i64, Int.reduceAdd, Int.reduceSub, Int.reduceMul, Int.reduceMod, Int.reducePow, Int.reduceNeg]); try with_reducible rfl
  try simp only [Act.put, List.setIfInBounds_toArray, List.set_cons_zero, List.set_cons_succ]
  refine wpList_nil ?_
  go_upto_region 20 with fail
  refine wp_region_lit ?_
  refine lv (by kernel_rfl) (some 71) rfl (v := ?_) ?_ ?_
  rotate_left
  · go_simp; (try simp only [IntKind.wrap_u32, IntKind.wrap_i64, Int.reduceAdd, Int.reduceSub, Int.reduceMul, Int.reduceMod, Int.reducePow, Int.reduceNeg]); try with_reducible rfl
  try simp only [Act.put, List.setIfInBounds_toArray, List.set_cons_zero, List.set_cons_succ]
  refine ly M0 (some 72) rfl (yi_cell 0 24 (.tmp 71) rfl (by kernel_rfl) rfl _ rfl (.int .u32 r) Try.underlying24 rfl rfl) ?_
  try simp only [Act.put, List.setIfInBounds_toArray, List.set_cons_zero, List.set_cons_succ]
  refine lv (by kernel_rfl) (some 73) rfl (v := ?_) ?_ ?_
  rotate_left
  · go_simp; (try simp only [IntKind.wrap_u32, IntKind.wrap_i64, Int.reduceAdd, Int.reduceSub, Int.reduceMul, Int.reduceMod, Int.reducePow, Int.reduceNeg]); try with_reducible rfl
  try simp only [Act.put, List.setIfInBounds_toArray, List.set_cons_zero, List.set_cons_succ]
  refine wpList_nil ?_
  go_upto_region 22 with fail
  refine wp_region_lit ?_
  refine lv (by kernel_rfl) (some 74) rfl (v := ?_) ?_ ?_
  rotate_left
  · go_simp; (try simp only [IntKind.wrap_u32, IntKind.wrap_i64, Int.reduceAdd, Int.reduceSub, Int.reduceMul, Int.reduceMod, Int.reducePow, Int.reduceNeg]); try with_reducible rfl
  try simp only [Act.put, List.setIfInBounds_toArray, List.set_cons_zero, List.set_cons_succ]
  refine ly M0 (some 75) rfl (yi_cell 0 24 (.tmp 74) rfl (by kernel_rfl) rfl _ rfl (.int .u32 r) Try.underlying24 rfl rfl) ?_
  try simp only [Act.put, List.setIfInBounds_toArray, List.set_cons_zero, List.set_cons_succ]
  refine lv (by kernel_rfl) (some 76) rfl (v := ?_) ?_ ?_
  rotate_left
  · go_simp; (try simp only [IntKind.wrap_u32, IntKind.wrap_i64, Int.reduceAdd, Int.reduceSub, Int.reduceMul, Int.reduceMod, Int.reducePow, Int.reduceNeg]); try with_reducible rfl
  try simp only [Act.put, List.setIfInBounds_toArray, List.set_cons_zero, List.set_cons_succ]
  refine wpList_nil ?_
  go_upto_region 24 with fail
  refine wp_region_lit ?_
  refine lv (by kernel_rfl) (some 77) rfl (v := ?_) ?_ ?_
  rotate_left
  · go_simp; (try simp only [IntKind.wrap_u32, IntKind.wrap_i64, Int.reduceAdd, Int.reduceSub, Int.reduceMul, Int.reduceMod, Int.reducePow, Int.reduceNeg]); try with_reducible rfl
  try simp only [Act.put, List.setIfInBounds_toArray, List.set_cons_zero, List.set_cons_succ]
  refine ly M0 (some 78) rfl (yi_cell 0 24 (.tmp 77) rfl (by kernel_rfl) rfl _ rfl (.int .u32 r) Try.underlying24 rfl rfl) ?_
  try simp only [Act.put, List.setIfInBounds_toArray, List.set_cons_zero, List.set_cons_succ]
  refine lv (by kernel_rfl) (some 79) rfl (v := ?_) ?_ ?_
  rotate_left
  · go_simp; (try simp only [IntKind.wrap_u32, IntKind.wrap_i64, Int.reduceAdd, Int.reduceSub, Int.reduceMul, Int.reduceMod, Int.reducePow, Int.reduceNeg]); try with_reducible rfl
  try simp only [Act.put, List.setIfInBounds_toArray, List.set_cons_zero, List.set_cons_succ]
  refine lv (by kernel_rfl) (some 80) rfl (v := ?_) ?_ ?_
  rotate_left
  · go_simp; (try simp only [IntKind.wrap_u32, IntKind.wrap_i64, Int.reduceAdd, Int.reduceSub, Int.reduceMul, Int.reduceMod, Int.reducePow, Int.reduceNeg]); try with_reducible rfl
  try simp only [Act.put, List.setIfInBounds_toArray, List.set_cons_zero, List.set_cons_succ]
  refine lv (by kernel_rfl) (some 81) rfl (v := ?_) ?_ ?_
  rotate_left
  · go_simp; (try simp only [IntKind.wrap_u32, IntKind.wrap_i64, Int.reduceAdd, Int.reduceSub, Int.reduceMul, Int.reduceMod, Int.reducePow, Int.reduceNeg]); try with_reducible rfl
  try simp only [Act.put, List.setIfInBounds_toArray, List.set_cons_zero, List.set_cons_succ]
  refine ly M0 (some 82) rfl (yi_cell 0 24 (.tmp 81) rfl (by kernel_rfl) rfl _ rfl (.int .u32 r) Try.underlying24 rfl rfl) ?_
  try simp only [Act.put, List.setIfInBounds_toArray, List.set_cons_zero, List.set_cons_succ]
  refine lv (by kernel_rfl) (some 83) rfl (v := ?_) ?_ ?_
  rotate_left
  · go_simp; (try simp only [IntKind.wrap_u32, IntKind.wrap_i64, Int.reduceAdd, Int.reduceSub, Int.reduceMul, Int.reduceMod, Int.reducePow, Int.reduceNeg]); try with_reducible rfl
  try simp only [Act.put, List.setIfInBounds_toArray, List.set_cons_zero, List.set_cons_succ]
  refine lv (by kernel_rfl) (some 84) rfl (v := ?_) ?_ ?_
  rotate_left
  · go_simp; (try simp only [IntKind.wrap_u32, IntKind.wrap_i64, Int.reduceAdd, Int.reduceSub, Int.reduceMul, Int.reduceMod, Int.reducePow, Int.reduceNeg]); try with_reducible rfl
  try simp only [Act.put, List.setIfInBounds_toArray, List.set_cons_zero, List.set_cons_succ]
  refine wpList_nil ?_
  go_upto_region 26 with fail
  refine wp_region_lit ?_
  refine lv (by kernel_rfl) (some 85) rfl (v := ?_) ?_ ?_
  rotate_left
  · go_simp; (try simp only [IntKind.wrap_u32, IntKind.wrap_i64, Int.reduceAdd, Int.reduceSub, Int.reduceMul, Int.reduceMod, Int.reducePow, Int.reduceNeg]); try with_reducible rfl
  try simp only [Act.put, List.setIfInBounds_toArray, List.set_cons_zero, List.set_cons_succ]
  refine ly M0 (some 86) rfl (yi_cell 0 24 (.tmp 85) rfl (by kernel_rfl) rfl _ rfl (.int .u32 r) Try.underlying24 rfl rfl) ?_
  try simp only [Act.put, List.setIfInBounds_toArray, List.set_cons_zero, List.set_cons_succ]
  refine lv (by kernel_rfl) (some 87) rfl (v := ?_) ?_ ?_
  rotate_left
  · go_simp; (try simp only [IntKind.wrap_u32, IntKind.wrap_i64, Int.reduceAdd, Int.reduceSub, Int.reduceMul, Int.reduceMod, Int.reducePow, Int.reduceNeg]); try with_reducible rfl
  try simp only [Act.put, List.setIfInBounds_toArray, List.set_cons_zero, List.set_cons_succ]
  refine lv (by kernel_rfl) (some 88) rfl (v := ?_) ?_ ?_
  rotate_left
  · go_simp; (try simp only [IntKind.wrap_u32, IntKind.wrap_i64, Int.reduceAdd, Int.reduceSub, Int.reduceMul, Int.reduceMod, Int.reducePow, Int.reduceNeg]); try with_reducible rfl
  try simp only [Act.put, List.setIfInBounds_toArray, List.set_cons_zero, List.set_cons_succ]
  refine lv (by kernel_rfl) (some 89) rfl (v := ?_) ?_ ?_
  rotate_left
  · go_simp; (try simp only [IntKind.wrap_u32, IntKind.wrap_i64, Int.reduceAdd, Int.reduceSub, Int.reduceMul, Int.reduceMod, Int.reducePow, Int.reduceNeg]); try with_reducible rfl
  try simp only [Act.put, List.setIfInBounds_toArray, List.set_cons_zero, List.set_cons_succ]
  refine ly M0 (some 90) rfl (yi_cell 0 24 (.tmp 89) rfl (by kernel_rfl) rfl _ rfl (.int .u32 r) Try.underlying24 rfl rfl) ?_
  try simp only [Act.put, List.setIfInBounds_toArray, List.set_cons_zero, List.set_cons_succ]
  refine lv (by kernel_rfl) (some 91) rfl (v := ?_) ?_ ?_
  rotate_left
  · go_simp; (try simp only [IntKind.wrap_u32, IntKind.wrap_i64, Int.reduceAdd, Int.reduceSub, Int.reduceMul, Int.reduceMod, Int.reducePow, Int.reduceNeg]); try with_reducible rfl
  try simp only [Act.put, List.setIfInBounds_toArray, List.set_cons_zero, List.set_cons_succ]
  refine lv (by kernel_rfl) (some 92) rfl (v := ?_) ?_ ?_
  rotate_left
  · go_simp; (try simp only [IntKind.wrap_u32, IntKind.wrap_i64, Int.reduceAdd, Int.reduceSub, Int.reduceMul, Int.reduceMod, Int.reducePow, Int.reduceNeg]); try with_reducible rfl
  try simp only [Act.put, List.setIfInBounds_toArray, List.set_cons_zero, List.set_cons_succ]
  refine wpList_nil ?_
  go_upto_region 28 with fail
  refine wp_region_lit ?_
  refine lv (by kernel_rfl) (some 93) rfl (v := ?_) ?_ ?_
  rotate_left
  · go_simp; (try simp only [IntKind.wrap_u32, IntKind.wrap_i64, Int.reduceAdd, Int.reduceSub, Int.reduceMul, Int.reduceMod, Int.reducePow, Int.reduceNeg]); try with_reducible rfl
  try simp only [Act.put, List.setIfInBounds_toArray, List.set_cons_zero, List.set_cons_succ]
  refine lv (by kernel_rfl) (some 94) rfl (v := ?_) ?_ ?_
  rotate_left
  · go_simp; (try simp only [IntKind.wrap_u32, IntKind.wrap_i64, Int.reduceAdd, Int.reduceSub, Int.reduceMul, Int.reduceMod, Int.reducePow, Int.reduceNeg]); try with_reducible rfl
  try simp only [Act.put, List.setIfInBounds_toArray, List.set_cons_zero, List.set_cons_succ]
  refine wpList_nil ?_
  go_upto_region 29 with fail
  refine wp_region_lit ?_
  refine lv (by kernel_rfl) (some 95) rfl (v := ?_) ?_ ?_
  rotate_left
  · go_simp; (try simp only [IntKind.wrap_u32, IntKind.wrap_i64, Int.reduceAdd, Int.reduceSub, Int.reduceMul, Int.reduceMod, Int.reducePow, Int.reduceNeg]); try with_reducible rfl
  try simp only [Act.put, List.setIfInBounds_toArray, List.set_cons_zero, List.set_cons_succ]
  refine l_store M0 1 (by kernel_rfl) 26 (.tmp 6) _ rfl rfl rfl rfl _ rfl (by kernel_rfl) (by rfl) (by kernel_rfl) _ rfl (fun s1 M1 => ?_)
  clear M0
  try simp only [List.cons_append, List.nil_append, List.set_cons_zero, List.set_cons_succ] at M1
  try simp only [Act.put, List.setIfInBounds_toArray, List.set_cons_zero, List.set_cons_succ]
  refine lv (by kernel_rfl) (some 7) rfl (v := ?_) ?_ ?_
  rotate_left
  · go_simp; (try simp only [IntKind.wrap_u32, IntKind.wrap_i64, Int.reduceAdd, Int.reduceSub, Int.reduceMul, Int.reduceMod, Int.reducePow, Int.reduceNeg]); try with_reducible rfl
  try simp only [Act.put, List.setIfInBounds_toArray, List.set_cons_zero, List.set_cons_succ]
  refine wpList_nil ?_
  go_wp2_with fail
  exact bodyPost_ret (v := retM (none) d) (results_cell_tmp rfl (M1.row (i := 1) rfl) _ rfl _ rfl Try.underlying26 rfl (by kernel_rfl)) rfl ⟨rfl, M1.below⟩
set_option maxRecDepth 100000 in
set_option maxHeartbeats 4000000 in
theorem rto4_plow (k c r : Int) (d : ByteArray) (a b : Int) (w : World) (hs : Sides a b) (h4 : (k == 4) = true) (hk2 : (k == 2) = false) (h0 : (c == 0) = true) (hwr : IntKind.i64.wrap r = r) (l1 : ¬ r ≤ 1) (e4 : (r == 4) = false) (e5 : (r == 5) = false) (e6 : (r == 6) = false) (e7 : (r == 7) = false) (e8 : ¬ 8 ≤ r) (e24 : r < 24) (f24 : ¬ 24 ≤ r) :
    Calls Try.prog 16 #[msgV k c r d, .int .i64 a, .int .i64 b] w fun e w' => e = .returned (retM (none) d) ∧ Below w.heap.size w w' := by
  have c24 := fun w => rbounds_t a b w hs
  clear hs

  go_enter Try.func16, Try.ntmps16
  go_upto_region 1 with fail
  have M0 := Mem.two w 26 26 #[.int .i64 k, .int .i64 c, .int .u32 r, .string d] #[.int .i64 0, .int .i64 0, .int .u32 0, .string ⟨#[]⟩]
  refine wp_region_lit ?_
  refine lv (by kernel_rfl) (some 13) rfl (v := ?_) ?_ ?_
  rotate_left
  · go_simp; try with_reducible rfl
  try simp only [Act.put, List.setIfInBounds_toArray, List.set_cons_zero, List.set_cons_succ]
  refine lv (by kernel_rfl) (some 14) rfl (v := ?_) ?_ ?_
  rotate_left
  · go_simp; try with_reducible rfl
  try simp only [Act.put, List.setIfInBounds_toArray, List.set_cons_zero, List.set_cons_succ]
  refine l_same (by kernel_rfl) (some 15) rfl (c24 _) (by kernel_rfl) ?_
  try simp only [Act.put, List.setIfInBounds_toArray, List.set_cons_zero, List.set_cons_succ]
  refine lv (by kernel_rfl) (some 16) rfl (v := ?_) ?_ ?_
  rotate_left
  · go_simp; try with_reducible rfl
  try simp only [Act.put, List.setIfInBounds_toArray, List.set_cons_zero, List.set_cons_succ]
  refine wpList_nil ?_
  go_upto_region 3 with fail
  refine wp_region_lit ?_
  refine lv (by kernel_rfl) (some 18) rfl (v := ?_) ?_ ?_
  rotate_left
  · go_simp; try with_reducible rfl
  try simp only [Act.put, List.setIfInBounds_toArray, List.set_cons_zero, List.set_cons_succ]
  refine ly M0 (some 19) rfl (yi_cell 0 3 (.tmp 18) rfl (by kernel_rfl) rfl _ rfl (.int .i64 k) Try.underlying3 rfl rfl) ?_
  try simp only [Act.put, List.setIfInBounds_toArray, List.set_cons_zero, List.set_cons_succ]
  refine lv (by kernel_rfl) (some 20) rfl (v := ?_) ?_ ?_
  rotate_left
  · go_simp; try with_reducible rfl
  try simp only [Act.put, List.setIfInBounds_toArray, List.set_cons_zero, List.set_cons_succ]
  refine lv (by kernel_rfl) (some 21) rfl (v := ?_) ?_ ?_
  rotate_left
  · go_simp; try with_reducible rfl
  try simp only [Act.put, List.setIfInBounds_toArray, List.set_cons_zero, List.set_cons_succ]
  with_reducible refine lu (by kernel_rfl) (some 22) rfl ?_
  try simp only [Act.put, List.setIfInBounds_toArray, List.set_cons_zero, List.set_cons_succ]
  with_reducible refine lu (by kernel_rfl) (some 23) rfl ?_
  try simp only [Act.put, List.setIfInBounds_toArray, List.set_cons_zero, List.set_cons_succ]
  with_reducible refine lu (by kernel_rfl) (some 24) rfl ?_
  try simp only [Act.put, List.setIfInBounds_toArray, List.set_cons_zero, List.set_cons_succ]
  refine lv (by kernel_rfl) (some 25) rfl (v := ?_) ?_ ?_
  rotate_left
  · go_simp; try with_reducible rfl
  try simp only [Act.put, List.setIfInBounds_toArray, List.set_cons_zero, List.set_cons_succ]
  refine wpList_nil ?_
  go_upto_region 14 with fail
  refine wp_region_lit ?_
  refine lv (by kernel_rfl) (some 49) rfl (v := ?_) ?_ ?_
  rotate_left
  · go_simp; try with_reducible rfl
  try simp only [Act.put, List.setIfInBounds_toArray, List.set_cons_zero, List.set_cons_succ]
  refine ly M0 (some 50) rfl (yi_cell 0 3 (.tmp 49) rfl (by kernel_rfl) rfl _ rfl (.int .i64 k) Try.underlying3 rfl rfl) ?_
  try simp only [Act.put, List.setIfInBounds_toArray, List.set_cons_zero, List.set_cons_succ]
  refine lv (by kernel_rfl) (some 51) rfl (v := ?_) ?_ ?_
  rotate_left
  · go_simp; try with_reducible rfl
  try simp only [Act.put, List.setIfInBounds_toArray, List.set_cons_zero, List.set_cons_succ]
  refine lv (by kernel_rfl) (some 52) rfl (v := ?_) ?_ ?_
  rotate_left
  · go_simp; try with_reducible rfl
  try simp only [Act.put, List.setIfInBounds_toArray, List.set_cons_zero, List.set_cons_succ]
  refine lv (by kernel_rfl) (some 53) rfl (v := ?_) ?_ ?_
  rotate_left
  · go_simp; try with_reducible rfl
  try simp only [Act.put, List.setIfInBounds_toArray, List.set_cons_zero, List.set_cons_succ]
  refine ly M0 (some 54) rfl (yi_cell 0 3 (.tmp 53) rfl (by kernel_rfl) rfl _ rfl (.int .i64 c) Try.underlying3 rfl rfl) ?_
  try simp only [Act.put, List.setIfInBounds_toArray, List.set_cons_zero, List.set_cons_succ]
  refine lv (by kernel_rfl) (some 55) rfl (v := ?_) ?_ ?_
  rotate_left
  · go_simp; try with_reducible rfl
  try simp only [Act.put, List.setIfInBounds_toArray, List.set_cons_zero, List.set_cons_succ]
  refine lv (by kernel_rfl) (some 56) rfl (v := ?_) ?_ ?_
  rotate_left
  · go_simp; try with_reducible rfl
  try simp only [Act.put, List.setIfInBounds_toArray, List.set_cons_zero, List.set_cons_succ]
  refine wpList_nil ?_
  go_upto_region 15 with fail
  refine wp_region_lit ?_
  refine lv (by kernel_rfl) (some 9) rfl (v := ?_) ?_ ?_
  rotate_left
  · go_simp; (try simp only [IntKind.wrap_u32, IntKind.wrap_i64, Int.reduceAdd, Int.reduceSub, Int.reduceMul, Int.reduceMod, Int.reducePow, Int.reduceNeg]); try with_reducible rfl
  try simp only [Act.put, List.setIfInBounds_toArray, List.set_cons_zero, List.set_cons_succ]
  refine wpList_nil ?_
  go_upto_region 16 with fail
  refine wp_region_lit ?_
  refine lv (by kernel_rfl) (some 57) rfl (v := ?_) ?_ ?_
  rotate_left
  · go_simp; (try simp only [IntKind.wrap_u32, IntKind.wrap_i64, Int.reduceAdd, Int.reduceSub, Int.reduceMul, Int.reduceMod, Int.reducePow, Int.reduceNeg]); try with_reducible rfl
  try simp only [Act.put, List.setIfInBounds_toArray, List.set_cons_zero, List.set_cons_succ]
  refine ly M0 (some 58) rfl (yi_cell 0 24 (.tmp 57) rfl (by kernel_rfl) rfl _ rfl (.int .u32 r) Try.underlying24 rfl rfl) ?_
  try simp only [Act.put, List.setIfInBounds_toArray, List.set_cons_zero, List.set_cons_succ]
  refine lv (by kernel_rfl) (some 59) rfl (v := ?_) ?_ ?_
  rotate_left
  · go_simp; (try simp only [IntKind.wrap_u32, IntKind.wrap_i64, Int.reduceAdd, Int.reduceSub, Int.reduceMul, Int.reduceMod, Int.reducePow, Int.reduceNeg]); try with_reducible rfl
  try simp only [Act.put, List.setIfInBounds_toArray, List.set_cons_zero, List.set_cons_succ]
  refine wpList_nil ?_
  go_upto_region 18 with fail
  refine wp_region_lit ?_
  refine lv (by kernel_rfl) (some 63) rfl (v := ?_) ?_ ?_
  rotate_left
  · go_simp; (try simp only [IntKind.wrap_u32, IntKind.wrap_i64, Int.reduceAdd, Int.reduceSub, Int.reduceMul, Int.reduceMod, Int.reducePow, Int.reduceNeg]); try with_reducible rfl
  try simp only [Act.put, List.setIfInBounds_toArray, List.set_cons_zero, List.set_cons_succ]
  refine ly M0 (some 64) rfl (yi_cell 0 24 (.tmp 63) rfl (by kernel_rfl) rfl _ rfl (.int .u32 r) Try.underlying24 rfl rfl) ?_
  try simp only [Act.put, List.setIfInBounds_toArray, List.set_cons_zero, List.set_cons_succ]
  refine lv (by kernel_rfl) (some 65) rfl (v := ?_) ?_ ?_
  rotate_left
  · go_simp; (try simp only [IntKind.wrap_u32, IntKind.wrap_i64, Int.reduceAdd, Int.reduceSub, Int.reduceMul, Int.reduceMod, Int.reducePow, Int.reduceNeg]); try with_reducible rfl
  try simp only [Act.put, List.setIfInBounds_toArray, List.set_cons_zero, List.set_cons_succ]
  refine lv (by kernel_rfl) (some 66) rfl (v := ?_) ?_ ?_
  rotate_left
  · go_simp; (try simp only [IntKind.wrap_u32, IntKind.wrap_i64, Int.reduceAdd, Int.reduceSub, Int.reduceMul, Int.reduceMod, Int.reducePow, Int.reduceNeg]); try with_reducible rfl
  try simp only [Act.put, List.setIfInBounds_toArray, List.set_cons_zero, List.set_cons_succ]
  refine lv (by kernel_rfl) (some 67) rfl (v := ?_) ?_ ?_
  rotate_left
  · go_simp; (try simp only [IntKind.wrap_u32, IntKind.wrap_i64, Int.reduceAdd, Int.reduceSub, Int.reduceMul, Int.reduceMod, Int.reducePow, Int.reduceNeg]); try with_reducible rfl
  try simp only [Act.put, List.setIfInBounds_toArray, List.set_cons_zero, List.set_cons_succ]
  refine ly M0 (some 68) rfl (yi_cell 0 24 (.tmp 67) rfl (by kernel_rfl) rfl _ rfl (.int .u32 r) Try.underlying24 rfl rfl) ?_
  try simp only [Act.put, List.setIfInBounds_toArray, List.set_cons_zero, List.set_cons_succ]
  refine lv (by kernel_rfl) (some 69) rfl (v := ?_) ?_ ?_
  rotate_left
  · go_simp; (try simp only [IntKind.wrap_u32, IntKind.wrap_i64, Int.reduceAdd, Int.reduceSub, Int.reduceMul, Int.reduceMod, Int.reducePow, Int.reduceNeg]); try with_reducible rfl
  try simp only [Act.put, List.setIfInBounds_toArray, List.set_cons_zero, List.set_cons_succ]
  refine lv (by kernel_rfl) (some 70) rfl (v := ?_) ?_ ?_
  rotate_left
  · go_simp; (try simp only [IntKind.wrap_u32, IntKind.wrap_i64, Int.reduceAdd, Int.reduceSub, Int.reduceMul, Int.reduceMod, Int.reducePow, Int.reduceNeg]); try with_reducible rfl
  try simp only [Act.put, List.setIfInBounds_toArray, List.set_cons_zero, List.set_cons_succ]
  refine wpList_nil ?_
  go_upto_region 20 with fail
  refine wp_region_lit ?_
  refine lv (by kernel_rfl) (some 71) rfl (v := ?_) ?_ ?_
  rotate_left
  · go_simp; (try simp only [IntKind.wrap_u32, IntKind.wrap_i64, Int.reduceAdd, Int.reduceSub, Int.reduceMul, Int.reduceMod, Int.reducePow, Int.reduceNeg]); try with_reducible rfl
  try simp only [Act.put, List.setIfInBounds_toArray, List.set_cons_zero, List.set_cons_succ]
  refine ly M0 (some 72) rfl (yi_cell 0 24 (.tmp 71) rfl (by kernel_rfl) rfl _ rfl (.int .u32 r) Try.underlying24 rfl rfl) ?_
  try simp only [Act.put, List.setIfInBounds_toArray, List.set_cons_zero, List.set_cons_succ]
  refine lv (by kernel_rfl) (some 73) rfl (v := ?_) ?_ ?_
  rotate_left
  · go_simp; (try simp only [IntKind.wrap_u32, IntKind.wrap_i64, Int.reduceAdd, Int.reduceSub, Int.reduceMul, Int.reduceMod, Int.reducePow, Int.reduceNeg]); try with_reducible rfl
  try simp only [Act.put, List.setIfInBounds_toArray, List.set_cons_zero, List.set_cons_succ]
  refine wpList_nil ?_
  go_upto_region 22 with fail
  refine wp_region_lit ?_
  refine lv (by kernel_rfl) (some 74) rfl (v := ?_) ?_ ?_
  rotate_left
  · go_simp; (try simp only [IntKind.wrap_u32, IntKind.wrap_i64, Int.reduceAdd, Int.reduceSub, Int.reduceMul, Int.reduceMod, Int.reducePow, Int.reduceNeg]); try with_reducible rfl
  try simp only [Act.put, List.setIfInBounds_toArray, List.set_cons_zero, List.set_cons_succ]
  refine ly M0 (some 75) rfl (yi_cell 0 24 (.tmp 74) rfl (by kernel_rfl) rfl _ rfl (.int .u32 r) Try.underlying24 rfl rfl) ?_
  try simp only [Act.put, List.setIfInBounds_toArray, List.set_cons_zero, List.set_cons_succ]
  refine lv (by kernel_rfl) (some 76) rfl (v := ?_) ?_ ?_
  rotate_left
  · go_simp; (try simp only [IntKind.wrap_u32, IntKind.wrap_i64, Int.reduceAdd, Int.reduceSub, Int.reduceMul, Int.reduceMod, Int.reducePow, Int.reduceNeg]); try with_reducible rfl
  try simp only [Act.put, List.setIfInBounds_toArray, List.set_cons_zero, List.set_cons_succ]
  refine wpList_nil ?_
  go_upto_region 24 with fail
  refine wp_region_lit ?_
  refine lv (by kernel_rfl) (some 77) rfl (v := ?_) ?_ ?_
  rotate_left
  · go_simp; (try simp only [IntKind.wrap_u32, IntKind.wrap_i64, Int.reduceAdd, Int.reduceSub, Int.reduceMul, Int.reduceMod, Int.reducePow, Int.reduceNeg]); try with_reducible rfl
  try simp only [Act.put, List.setIfInBounds_toArray, List.set_cons_zero, List.set_cons_succ]
  refine ly M0 (some 78) rfl (yi_cell 0 24 (.tmp 77) rfl (by kernel_rfl) rfl _ rfl (.int .u32 r) Try.underlying24 rfl rfl) ?_
  try simp only [Act.put, List.setIfInBounds_toArray, List.set_cons_zero, List.set_cons_succ]
  refine lv (by kernel_rfl) (some 79) rfl (v := ?_) ?_ ?_
  rotate_left
  · go_simp; (try simp only [IntKind.wrap_u32, IntKind.wrap_i64, Int.reduceAdd, Int.reduceSub, Int.reduceMul, Int.reduceMod, Int.reducePow, Int.reduceNeg]); try with_reducible rfl
  try simp only [Act.put, List.setIfInBounds_toArray, List.set_cons_zero, List.set_cons_succ]
  refine lv (by kernel_rfl) (some 80) rfl (v := ?_) ?_ ?_
  rotate_left
  · go_simp; (try simp only [IntKind.wrap_u32, IntKind.wrap_i64, Int.reduceAdd, Int.reduceSub, Int.reduceMul, Int.reduceMod, Int.reducePow, Int.reduceNeg]); try with_reducible rfl
  try simp only [Act.put, List.setIfInBounds_toArray, List.set_cons_zero, List.set_cons_succ]
  with_reducible refine lu (by kernel_rfl) (some 81) rfl ?_
  try simp only [Act.put, List.setIfInBounds_toArray, List.set_cons_zero, List.set_cons_succ]
  with_reducible refine lu (by kernel_rfl) (some 82) rfl ?_
  try simp only [Act.put, List.setIfInBounds_toArray, List.set_cons_zero, List.set_cons_succ]
  with_reducible refine lu (by kernel_rfl) (some 83) rfl ?_
  try simp only [Act.put, List.setIfInBounds_toArray, List.set_cons_zero, List.set_cons_succ]
  refine lv (by kernel_rfl) (some 84) rfl (v := ?_) ?_ ?_
  rotate_left
  · go_simp; (try simp only [IntKind.wrap_u32, IntKind.wrap_i64, Int.reduceAdd, Int.reduceSub, Int.reduceMul, Int.reduceMod, Int.reducePow, Int.reduceNeg]); try with_reducible rfl
  try simp only [Act.put, List.setIfInBounds_toArray, List.set_cons_zero, List.set_cons_succ]
  refine wpList_nil ?_
  go_upto_region 26 with fail
  refine wp_region_lit ?_
  refine lv (by kernel_rfl) (some 85) rfl (v := ?_) ?_ ?_
  rotate_left
  · go_simp; (try simp only [IntKind.wrap_u32, IntKind.wrap_i64, Int.reduceAdd, Int.reduceSub, Int.reduceMul, Int.reduceMod, Int.reducePow, Int.reduceNeg]); try with_reducible rfl
  try simp only [Act.put, List.setIfInBounds_toArray, List.set_cons_zero, List.set_cons_succ]
  refine ly M0 (some 86) rfl (yi_cell 0 24 (.tmp 85) rfl (by kernel_rfl) rfl _ rfl (.int .u32 r) Try.underlying24 rfl rfl) ?_
  try simp only [Act.put, List.setIfInBounds_toArray, List.set_cons_zero, List.set_cons_succ]
  refine lv (by kernel_rfl) (some 87) rfl (v := ?_) ?_ ?_
  rotate_left
  · go_simp; (try simp only [IntKind.wrap_u32, IntKind.wrap_i64, Int.reduceAdd, Int.reduceSub, Int.reduceMul, Int.reduceMod, Int.reducePow, Int.reduceNeg]); try with_reducible rfl
  try simp only [Act.put, List.setIfInBounds_toArray, List.set_cons_zero, List.set_cons_succ]
  refine lv (by kernel_rfl) (some 88) rfl (v := ?_) ?_ ?_
  rotate_left
  · go_simp; (try simp only [IntKind.wrap_u32, IntKind.wrap_i64, Int.reduceAdd, Int.reduceSub, Int.reduceMul, Int.reduceMod, Int.reducePow, Int.reduceNeg]); try with_reducible rfl
  try simp only [Act.put, List.setIfInBounds_toArray, List.set_cons_zero, List.set_cons_succ]
  with_reducible refine lu (by kernel_rfl) (some 89) rfl ?_
  try simp only [Act.put, List.setIfInBounds_toArray, List.set_cons_zero, List.set_cons_succ]
  with_reducible refine lu (by kernel_rfl) (some 90) rfl ?_
  try simp only [Act.put, List.setIfInBounds_toArray, List.set_cons_zero, List.set_cons_succ]
  with_reducible refine lu (by kernel_rfl) (some 91) rfl ?_
  try simp only [Act.put, List.setIfInBounds_toArray, List.set_cons_zero, List.set_cons_succ]
  refine lv (by kernel_rfl) (some 92) rfl (v := ?_) ?_ ?_
  rotate_left
  · go_simp; (try simp only [IntKind.wrap_u32, IntKind.wrap_i64, Int.reduceAdd, Int.reduceSub, Int.reduceMul, Int.reduceMod, Int.reducePow, Int.reduceNeg]); try with_reducible rfl
  try simp only [Act.put, List.setIfInBounds_toArray, List.set_cons_zero, List.set_cons_succ]
  refine wpList_nil ?_
  go_upto_region 28 with fail
  refine wp_region_lit ?_
  refine lv (by kernel_rfl) (some 93) rfl (v := ?_) ?_ ?_
  rotate_left
  · go_simp; (try simp only [IntKind.wrap_u32, IntKind.wrap_i64, Int.reduceAdd, Int.reduceSub, Int.reduceMul, Int.reduceMod, Int.reducePow, Int.reduceNeg]); try with_reducible rfl
  try simp only [Act.put, List.setIfInBounds_toArray, List.set_cons_zero, List.set_cons_succ]
  refine lv (by kernel_rfl) (some 94) rfl (v := ?_) ?_ ?_
  rotate_left
  · go_simp; (try simp only [IntKind.wrap_u32, IntKind.wrap_i64, Int.reduceAdd, Int.reduceSub, Int.reduceMul, Int.reduceMod, Int.reducePow, Int.reduceNeg]); try with_reducible rfl
  try simp only [Act.put, List.setIfInBounds_toArray, List.set_cons_zero, List.set_cons_succ]
  refine wpList_nil ?_
  go_upto_region 29 with fail
  refine wp_region_lit ?_
  refine lv (by kernel_rfl) (some 95) rfl (v := ?_) ?_ ?_
  rotate_left
  · go_simp; (try simp only [IntKind.wrap_u32, IntKind.wrap_i64, Int.reduceAdd, Int.reduceSub, Int.reduceMul, Int.reduceMod, Int.reducePow, Int.reduceNeg]); try with_reducible rfl
  try simp only [Act.put, List.setIfInBounds_toArray, List.set_cons_zero, List.set_cons_succ]
  refine l_store M0 1 (by kernel_rfl) 26 (.tmp 6) _ rfl rfl rfl rfl _ rfl (by kernel_rfl) (by rfl) (by kernel_rfl) _ rfl (fun s1 M1 => ?_)
  clear M0
  try simp only [List.cons_append, List.nil_append, List.set_cons_zero, List.set_cons_succ] at M1
  try simp only [Act.put, List.setIfInBounds_toArray, List.set_cons_zero, List.set_cons_succ]
  refine lv (by kernel_rfl) (some 7) rfl (v := ?_) ?_ ?_
  rotate_left
  · go_simp; (try simp only [IntKind.wrap_u32, IntKind.wrap_i64, Int.reduceAdd, Int.reduceSub, Int.reduceMul, Int.reduceMod, Int.reducePow, Int.reduceNeg]); try with_reducible rfl
  try simp only [Act.put, List.setIfInBounds_toArray, List.set_cons_zero, List.set_cons_succ]
  refine wpList_nil ?_
  go_wp2_with fail
  exact bodyPost_ret (v := retM (none) d) (results_cell_tmp rfl (M1.row (i := 1) rfl) _ rfl _ rfl Try.underlying26 rfl (by kernel_rfl)) rfl ⟨rfl, M1.below⟩
end Go.Proofs.Ytcppckpkiloilaa
