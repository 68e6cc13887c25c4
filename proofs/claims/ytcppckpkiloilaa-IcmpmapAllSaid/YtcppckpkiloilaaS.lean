/-
  Contract of the reference's To4 (parts). Conditions stand in each statement.
-/
import Derived.Test.YtcppckpkiloilaaR
namespace Go.Proofs.Ytcppckpkiloilaa
open Go.RowKit
set_option linter.unusedVariables false
set_option linter.unusedSimpArgs false


set_option maxRecDepth 100000 in
set_option maxHeartbeats 4000000 in
theorem rto4_sides (k c r : Int) (d : ByteArray) (a b : Int) (w : World) (hs : ¬ Sides a b) :
    Calls Try.prog 16 #[msgV k c r d, .int .i64 a, .int .i64 b] w fun e w' => e = .returned (retM (none) d) ∧ Below w.heap.size w w' := by
  have c24 := fun w => rbounds_f a b w hs
  clear hs
  go_enter Try.func16, Try.ntmps16
  go_upto_region 1 with fail
  have M0 := Mem.two w 26 26 #[.int .i64 k, .int .i64 c, .int .u32 r, .string d] #[.int .i64 0, .int .i64 0, .int .u32 0, .string ⟨#[]⟩]
  refine wp_region_lit ?_
  refine lv (by kernel_rfl) (some 13) rfl (v := ?_) ?_ ?_
  rotate_left
  · go_simp; try with_reducible rfl
  try simp only [Act.put, List.setIfInBounds_toArray, List.set_cons_zero, List.set_cons_succ]
  refine lv (by kernel_rfl) (some 14) rfl (v := ?_) ?_ ?_
  rotate_left
  · go_simp; try with_reducible rfl
  try simp only [Act.put, List.setIfInBounds_toArray, List.set_cons_zero, List.set_cons_succ]
  refine l_same (by kernel_rfl) (some 15) rfl (c24 _) (by kernel_rfl) ?_
  try simp only [Act.put, List.setIfInBounds_toArray, List.set_cons_zero, List.set_cons_succ]
  refine lv (by kernel_rfl) (some 16) rfl (v := ?_) ?_ ?_
  rotate_left
  · go_simp; try with_reducible rfl
  try simp only [Act.put, List.setIfInBounds_toArray, List.set_cons_zero, List.set_cons_succ]
  refine wpList_nil ?_
  go_upto_region 2 with fail
  refine wp_region_lit ?_
  refine lv (by kernel_rfl) (some 17) rfl (v := ?_) ?_ ?_
  rotate_left
  · go_simp; try with_reducible rfl
  try simp only [Act.put, List.setIfInBounds_toArray, List.set_cons_zero, List.set_cons_succ]
  refine l_store M0 1 (by kernel_rfl) 26 (.tmp 6) _ rfl rfl rfl rfl _ rfl (by kernel_rfl) (by rfl) (by kernel_rfl) _ rfl (fun s1 M1 => ?_)
  clear M0
  try simp only [List.cons_append, List.nil_append, List.set_cons_zero, List.set_cons_succ] at M1
  try simp only [Act.put, List.setIfInBounds_toArray, List.set_cons_zero, List.set_cons_succ]
  refine lv (by kernel_rfl) (some 7) rfl (v := ?_) ?_ ?_
  rotate_left
  · go_simp; try with_reducible rfl
  try simp only [Act.put, List.setIfInBounds_toArray, List.set_cons_zero, List.set_cons_succ]
  refine wpList_nil ?_
  go_wp2_with fail
  exact bodyPost_ret (v := retM (none) d) (results_cell_tmp rfl (M1.row (i := 1) rfl) _ rfl _ rfl Try.underlying26 rfl (by kernel_rfl)) rfl ⟨rfl, M1.below⟩
set_option maxRecDepth 100000 in
set_option maxHeartbeats 4000000 in
theorem rto4_m111 (k c r : Int) (d : ByteArray) (a b : Int) (w : World) (hs : Sides a b) (h2 : (k == 2) = true) (h0 : (c == 0) = true) (hwr : IntKind.i64.wrap r = r) (hw1 : IntKind.i64.wrap (r - 20) = r - 20) (hw2 : IntKind.i64.wrap (b - 20) = b - 20) (t1 : a < r - 20) (t2 : b - 20 < a) (t3 : (b - 20) < 68) :
    Calls Try.prog 16 #[msgV k c r d, .int .i64 a, .int .i64 b] w fun e w' => e = .returned (retM (some (3, 4, 68)) d) ∧ Below w.heap.size w w' := by
  have c24 := fun w => rbounds_t a b w hs
  clear hs
  go_enter Try.func16, Try.ntmps16
  go_upto_region 1 with fail
  have M0 := Mem.two w 26 26 #[.int .i64 k, .int .i64 c, .int .u32 r, .string d] #[.int .i64 0, .int .i64 0, .int .u32 0, .string ⟨#[]⟩]
  refine wp_region_lit ?_
  refine lv (by kernel_rfl) (some 13) rfl (v := ?_) ?_ ?_
  rotate_left
  · go_simp; try with_reducible rfl
  try simp only [Act.put, List.setIfInBounds_toArray, List.set_cons_zero, List.set_cons_succ]
  refine lv (by kernel_rfl) (some 14) rfl (v := ?_) ?_ ?_
  rotate_left
  · go_simp; try with_reducible rfl
  try simp only [Act.put, List.setIfInBounds_toArray, List.set_cons_zero, List.set_cons_succ]
  refine l_same (by kernel_rfl) (some 15) rfl (c24 _) (by kernel_rfl) ?_
  try simp only [Act.put, List.setIfInBounds_toArray, List.set_cons_zero, List.set_cons_succ]
  refine lv (by kernel_rfl) (some 16) rfl (v := ?_) ?_ ?_
  rotate_left
  · go_simp; try with_reducible rfl
  try simp only [Act.put, List.setIfInBounds_toArray, List.set_cons_zero, List.set_cons_succ]
  refine wpList_nil ?_
  go_upto_region 3 with fail
  refine wp_region_lit ?_
  refine lv (by kernel_rfl) (some 18) rfl (v := ?_) ?_ ?_
  rotate_left
  · go_simp; try with_reducible rfl
  try simp only [Act.put, List.setIfInBounds_toArray, List.set_cons_zero, List.set_cons_succ]
  refine ly M0 (some 19) rfl (yi_cell 0 3 (.tmp 18) rfl (by kernel_rfl) rfl _ rfl (.int .i64 k) Try.underlying3 rfl rfl) ?_
  try simp only [Act.put, List.setIfInBounds_toArray, List.set_cons_zero, List.set_cons_succ]
  refine lv (by kernel_rfl) (some 20) rfl (v := ?_) ?_ ?_
  rotate_left
  · go_simp; try with_reducible rfl
  try simp only [Act.put, List.setIfInBounds_toArray, List.set_cons_zero, List.set_cons_succ]
  refine lv (by kernel_rfl) (some 21) rfl (v := ?_) ?_ ?_
  rotate_left
  · go_simp; try with_reducible rfl
  try simp only [Act.put, List.setIfInBounds_toArray, List.set_cons_zero, List.set_cons_succ]
  refine lv (by kernel_rfl) (some 22) rfl (v := ?_) ?_ ?_
  rotate_left
  · go_simp; try with_reducible rfl
  try simp only [Act.put, List.setIfInBounds_toArray, List.set_cons_zero, List.set_cons_succ]
  refine ly M0 (some 23) rfl (yi_cell 0 3 (.tmp 22) rfl (by kernel_rfl) rfl _ rfl (.int .i64 c) Try.underlying3 rfl rfl) ?_
  try simp only [Act.put, List.setIfInBounds_toArray, List.set_cons_zero, List.set_cons_succ]
  refine lv (by kernel_rfl) (some 24) rfl (v := ?_) ?_ ?_
  rotate_left
  · go_simp; try with_reducible rfl
  try simp only [Act.put, List.setIfInBounds_toArray, List.set_cons_zero, List.set_cons_succ]
  refine lv (by kernel_rfl) (some 25) rfl (v := ?_) ?_ ?_
  rotate_left
  · go_simp; try with_reducible rfl
  try simp only [Act.put, List.setIfInBounds_toArray, List.set_cons_zero, List.set_cons_succ]
  refine wpList_nil ?_
  go_upto_region 4 with fail
  refine wp_region_lit ?_
  refine lv (by kernel_rfl) (some 26) rfl (v := ?_) ?_ ?_
  rotate_left
  · go_simp; try with_reducible rfl
  try simp only [Act.put, List.setIfInBounds_toArray, List.set_cons_zero, List.set_cons_succ]
  refine ly M0 (some 27) rfl (yi_cell 0 24 (.tmp 26) rfl (by kernel_rfl) rfl _ rfl (.int .u32 r) Try.underlying24 rfl rfl) ?_
  try simp only [Act.put, List.setIfInBounds_toArray, List.set_cons_zero, List.set_cons_succ]
  refine lv (by kernel_rfl) (some 28) rfl (v := ?_) ?_ ?_
  rotate_left
  · go_simp; try with_reducible rfl
  try simp only [Act.put, List.setIfInBounds_toArray, List.set_cons_zero, List.set_cons_succ]
  refine lv (by kernel_rfl) (some 29) rfl (v := ?_) ?_ ?_
  rotate_left
  · go_simp; try with_reducible rfl
  try simp only [Act.put, List.setIfInBounds_toArray, List.set_cons_zero, List.set_cons_succ]
  refine lv (by kernel_rfl) (some 8) rfl (v := ?_) ?_ ?_
  rotate_left
  · go_simp; try with_reducible rfl
  try simp only [Act.put, List.setIfInBounds_toArray, List.set_cons_zero, List.set_cons_succ]
  refine wpList_nil ?_
  go_upto_region 5 with fail
  refine wp_region_lit ?_
  refine lv (by kernel_rfl) (some 30) rfl (v := ?_) ?_ ?_
  rotate_left
  · go_simp; try with_reducible rfl
  try simp only [Act.put, List.setIfInBounds_toArray, List.set_cons_zero, List.set_cons_succ]
  refine lv (by kernel_rfl) (some 31) rfl (v := ?_) ?_ ?_
  rotate_left
  · go_simp; try with_reducible rfl
  try simp only [Act.put, List.setIfInBounds_toArray, List.set_cons_zero, List.set_cons_succ]
  refine lv (by kernel_rfl) (some 32) rfl (v := ?_) ?_ ?_
  rotate_left
  · go_simp; try with_reducible rfl
  try simp only [Act.put, List.setIfInBounds_toArray, List.set_cons_zero, List.set_cons_succ]
  refine wpList_nil ?_
  go_upto_region 6 with fail
  refine wp_region_lit ?_
  refine lv (by kernel_rfl) (some 33) rfl (v := ?_) ?_ ?_
  rotate_left
  · go_simp; try with_reducible rfl
  try simp only [Act.put, List.setIfInBounds_toArray, List.set_cons_zero, List.set_cons_succ]
  refine lv (by kernel_rfl) (some 8) rfl (v := ?_) ?_ ?_
  rotate_left
  · go_simp; try with_reducible rfl
  try simp only [Act.put, List.setIfInBounds_toArray, List.set_cons_zero, List.set_cons_succ]
  refine wpList_nil ?_
  go_upto_region 7 with fail
  refine wp_region_lit ?_
  refine lv (by kernel_rfl) (some 34) rfl (v := ?_) ?_ ?_
  rotate_left
  · go_simp; try with_reducible rfl
  try simp only [Act.put, List.setIfInBounds_toArray, List.set_cons_zero, List.set_cons_succ]
  refine lv (by kernel_rfl) (some 35) rfl (v := ?_) ?_ ?_
  rotate_left
  · go_simp; try with_reducible rfl
  try simp only [Act.put, List.setIfInBounds_toArray, List.set_cons_zero, List.set_cons_succ]
  refine lv (by kernel_rfl) (some 36) rfl (v := ?_) ?_ ?_
  rotate_left
  · go_simp; try with_reducible rfl
  try simp only [Act.put, List.setIfInBounds_toArray, List.set_cons_zero, List.set_cons_succ]
  refine lv (by kernel_rfl) (some 37) rfl (v := ?_) ?_ ?_
  rotate_left
  · go_simp; try with_reducible rfl
  try simp only [Act.put, List.setIfInBounds_toArray, List.set_cons_zero, List.set_cons_succ]
  refine wpList_nil ?_
  go_upto_region 8 with fail
  refine wp_region_lit ?_
  refine lv (by kernel_rfl) (some 38) rfl (v := ?_) ?_ ?_
  rotate_left
  · go_simp; try with_reducible rfl
  try simp only [Act.put, List.setIfInBounds_toArray, List.set_cons_zero, List.set_cons_succ]
  refine lv (by kernel_rfl) (some 39) rfl (v := ?_) ?_ ?_
  rotate_left
  · go_simp; try with_reducible rfl
  try simp only [Act.put, List.setIfInBounds_toArray, List.set_cons_zero, List.set_cons_succ]
  refine lv (by kernel_rfl) (some 8) rfl (v := ?_) ?_ ?_
  rotate_left
  · go_simp; try with_reducible rfl
  try simp only [Act.put, List.setIfInBounds_toArray, List.set_cons_zero, List.set_cons_succ]
  refine wpList_nil ?_
  go_upto_region 9 with fail
  refine wp_region_lit ?_
  refine lv (by kernel_rfl) (some 40) rfl (v := ?_) ?_ ?_
  rotate_left
  · go_simp; try with_reducible rfl
  try simp only [Act.put, List.setIfInBounds_toArray, List.set_cons_zero, List.set_cons_succ]
  refine lv (by kernel_rfl) (some 41) rfl (v := ?_) ?_ ?_
  rotate_left
  · go_simp; try with_reducible rfl
  try simp only [Act.put, List.setIfInBounds_toArray, List.set_cons_zero, List.set_cons_succ]
  refine wpList_nil ?_
  go_upto_region 10 with fail
  refine wp_region_lit ?_
  refine lv (by kernel_rfl) (some 8) rfl (v := ?_) ?_ ?_
  rotate_left
  · go_simp; try with_reducible rfl
  try simp only [Act.put, List.setIfInBounds_toArray, List.set_cons_zero, List.set_cons_succ]
  refine wpList_nil ?_
  go_upto_region 11 with fail
  refine wp_region_lit ?_
  refine lv (by kernel_rfl) (some 42) rfl (v := ?_) ?_ ?_
  rotate_left
  · go_simp; (try simp only [IntKind.wrap_u32, Int.reduceMod]); try with_reducible rfl
  try simp only [Act.put, List.setIfInBounds_toArray, List.set_cons_zero, List.set_cons_succ]
  refine lv (by kernel_rfl) (some 43) rfl (v := ?_) ?_ ?_
  rotate_left
  · go_simp; (try simp only [IntKind.wrap_u32, Int.reduceMod]); try with_reducible rfl
  try simp only [Act.put, List.setIfInBounds_toArray, List.set_cons_zero, List.set_cons_succ]
  refine wpList_nil ?_
  go_upto_region 13 with fail
  refine wp_region_lit ?_
  refine lv (by kernel_rfl) (some 44) rfl (v := ?_) ?_ ?_
  rotate_left
  · go_simp; (try simp only [IntKind.wrap_u32, Int.reduceMod]); try with_reducible rfl
  try simp only [Act.put, List.setIfInBounds_toArray, List.set_cons_zero, List.set_cons_succ]
  refine lv (by kernel_rfl) (some 45) rfl (v := ?_) ?_ ?_
  rotate_left
  · go_simp; (try simp only [IntKind.wrap_u32, Int.reduceMod]); try with_reducible rfl
  try simp only [Act.put, List.setIfInBounds_toArray, List.set_cons_zero, List.set_cons_succ]
  refine lv (by kernel_rfl) (some 46) rfl (v := ?_) ?_ ?_
  rotate_left
  · go_simp; (try simp only [IntKind.wrap_u32, Int.reduceMod]); try with_reducible rfl
  try simp only [Act.put, List.setIfInBounds_toArray, List.set_cons_zero, List.set_cons_succ]
  refine ly M0 (some 47) rfl (yi_cell 0 9 (.tmp 46) rfl (by kernel_rfl) rfl _ rfl (.string d) Try.underlying9 rfl rfl) ?_
  try simp only [Act.put, List.setIfInBounds_toArray, List.set_cons_zero, List.set_cons_succ]
  refine lv (by kernel_rfl) (some 48) rfl (v := ?_) ?_ ?_
  rotate_left
  · go_simp; (try simp only [IntKind.wrap_u32, Int.reduceMod]); try with_reducible rfl
  try simp only [Act.put, List.setIfInBounds_toArray, List.set_cons_zero, List.set_cons_succ]
  refine l_store M0 1 (by kernel_rfl) 26 (.tmp 6) _ rfl rfl rfl rfl _ rfl (by kernel_rfl) (by rfl) (by kernel_rfl) _ rfl (fun s1 M1 => ?_)
  clear M0
  try simp only [List.cons_append, List.nil_append, List.set_cons_zero, List.set_cons_succ] at M1
  try simp only [Act.put, List.setIfInBounds_toArray, List.set_cons_zero, List.set_cons_succ]
  refine lv (by kernel_rfl) (some 7) rfl (v := ?_) ?_ ?_
  rotate_left
  · go_simp; (try simp only [IntKind.wrap_u32, Int.reduceMod]); try with_reducible rfl
  try simp only [Act.put, List.setIfInBounds_toArray, List.set_cons_zero, List.set_cons_succ]
  refine wpList_nil ?_
  go_wp2_with fail
  exact bodyPost_ret (v := retM (some (3, 4, 68)) d) (results_cell_tmp rfl (M1.row (i := 1) rfl) _ rfl _ rfl Try.underlying26 rfl (by kernel_rfl)) rfl ⟨rfl, M1.below⟩
set_option maxRecDepth 100000 in
set_option maxHeartbeats 4000000 in
theorem rto4_m110 (k c r : Int) (d : ByteArray) (a b : Int) (w : World) (hs : Sides a b) (h2 : (k == 2) = true) (h0 : (c == 0) = true) (hwr : IntKind.i64.wrap r = r) (hw1 : IntKind.i64.wrap (r - 20) = r - 20) (hw2 : IntKind.i64.wrap (b - 20) = b - 20) (t1 : a < r - 20) (t2 : b - 20 < a) (t3 : ¬ (b - 20) < 68) (t4 : ¬ 65535 < (b - 20)) (hz : IntKind.u32.wrap (b - 20) = (b - 20)) :
    Calls Try.prog 16 #[msgV k c r d, .int .i64 a, .int .i64 b] w fun e w' => e = .returned (retM (some (3, 4, (b - 20))) d) ∧ Below w.heap.size w w' := by
  have c24 := fun w => rbounds_t a b w hs
  clear hs
  go_enter Try.func16, Try.ntmps16
  go_upto_region 1 with fail
  have M0 := Mem.two w 26 26 #[.int .i64 k, .int .i64 c, .int .u32 r, .string d] #[.int .i64 0, .int .i64 0, .int .u32 0, .string ⟨#[]⟩]
  refine wp_region_lit ?_
  refine lv (by kernel_rfl) (some 13) rfl (v := ?_) ?_ ?_
  rotate_left
  · go_simp; try with_reducible rfl
  try simp only [Act.put, List.setIfInBounds_toArray, List.set_cons_zero, List.set_cons_succ]
  refine lv (by kernel_rfl) (some 14) rfl (v := ?_) ?_ ?_
  rotate_left
  · go_simp; try with_reducible rfl
  try simp only [Act.put, List.setIfInBounds_toArray, List.set_cons_zero, List.set_cons_succ]
  refine l_same (by kernel_rfl) (some 15) rfl (c24 _) (by kernel_rfl) ?_
  try simp only [Act.put, List.setIfInBounds_toArray, List.set_cons_zero, List.set_cons_succ]
  refine lv (by kernel_rfl) (some 16) rfl (v := ?_) ?_ ?_
  rotate_left
  · go_simp; try with_reducible rfl
  try simp only [Act.put, List.setIfInBounds_toArray, List.set_cons_zero, List.set_cons_succ]
  refine wpList_nil ?_
  go_upto_region 3 with fail
  refine wp_region_lit ?_
  refine lv (by kernel_rfl) (some 18) rfl (v := ?_) ?_ ?_
  rotate_left
  · go_simp; try with_reducible rfl
  try simp only [Act.put, List.setIfInBounds_toArray, List.set_cons_zero, List.set_cons_succ]
  refine ly M0 (some 19) rfl (yi_cell 0 3 (.tmp 18) rfl (by kernel_rfl) rfl _ rfl (.int .i64 k) Try.underlying3 rfl rfl) ?_
  try simp only [Act.put, List.setIfInBounds_toArray, List.set_cons_zero, List.set_cons_succ]
  refine lv (by kernel_rfl) (some 20) rfl (v := ?_) ?_ ?_
  rotate_left
  · go_simp; try with_reducible rfl
  try simp only [Act.put, List.setIfInBounds_toArray, List.set_cons_zero, List.set_cons_succ]
  refine lv (by kernel_rfl) (some 21) rfl (v := ?_) ?_ ?_
  rotate_left
  · go_simp; try with_reducible rfl
  try simp only [Act.put, List.setIfInBounds_toArray, List.set_cons_zero, List.set_cons_succ]
  refine lv (by kernel_rfl) (some 22) rfl (v := ?_) ?_ ?_
  rotate_left
  · go_simp; try with_reducible rfl
  try simp only [Act.put, List.setIfInBounds_toArray, List.set_cons_zero, List.set_cons_succ]
  refine ly M0 (some 23) rfl (yi_cell 0 3 (.tmp 22) rfl (by kernel_rfl) rfl _ rfl (.int .i64 c) Try.underlying3 rfl rfl) ?_
  try simp only [Act.put, List.setIfInBounds_toArray, List.set_cons_zero, List.set_cons_succ]
  refine lv (by kernel_rfl) (some 24) rfl (v := ?_) ?_ ?_
  rotate_left
  · go_simp; try with_reducible rfl
  try simp only [Act.put, List.setIfInBounds_toArray, List.set_cons_zero, List.set_cons_succ]
  refine lv (by kernel_rfl) (some 25) rfl (v := ?_) ?_ ?_
  rotate_left
  · go_simp; try with_reducible rfl
  try simp only [Act.put, List.setIfInBounds_toArray, List.set_cons_zero, List.set_cons_succ]
  refine wpList_nil ?_
  go_upto_region 4 with fail
  refine wp_region_lit ?_
  refine lv (by kernel_rfl) (some 26) rfl (v := ?_) ?_ ?_
  rotate_left
  · go_simp; try with_reducible rfl
  try simp only [Act.put, List.setIfInBounds_toArray, List.set_cons_zero, List.set_cons_succ]
  refine ly M0 (some 27) rfl (yi_cell 0 24 (.tmp 26) rfl (by kernel_rfl) rfl _ rfl (.int .u32 r) Try.underlying24 rfl rfl) ?_
  try simp only [Act.put, List.setIfInBounds_toArray, List.set_cons_zero, List.set_cons_succ]
  refine lv (by kernel_rfl) (some 28) rfl (v := ?_) ?_ ?_
  rotate_left
  · go_simp; try with_reducible rfl
  try simp only [Act.put, List.setIfInBounds_toArray, List.set_cons_zero, List.set_cons_succ]
  refine lv (by kernel_rfl) (some 29) rfl (v := ?_) ?_ ?_
  rotate_left
  · go_simp; try with_reducible rfl
  try simp only [Act.put, List.setIfInBounds_toArray, List.set_cons_zero, List.set_cons_succ]
  refine lv (by kernel_rfl) (some 8) rfl (v := ?_) ?_ ?_
  rotate_left
  · go_simp; try with_reducible rfl
  try simp only [Act.put, List.setIfInBounds_toArray, List.set_cons_zero, List.set_cons_succ]
  refine wpList_nil ?_
  go_upto_region 5 with fail
  refine wp_region_lit ?_
  refine lv (by kernel_rfl) (some 30) rfl (v := ?_) ?_ ?_
  rotate_left
  · go_simp; try with_reducible rfl
  try simp only [Act.put, List.setIfInBounds_toArray, List.set_cons_zero, List.set_cons_succ]
  refine lv (by kernel_rfl) (some 31) rfl (v := ?_) ?_ ?_
  rotate_left
  · go_simp; try with_reducible rfl
  try simp only [Act.put, List.setIfInBounds_toArray, List.set_cons_zero, List.set_cons_succ]
  refine lv (by kernel_rfl) (some 32) rfl (v := ?_) ?_ ?_
  rotate_left
  · go_simp; try with_reducible rfl
  try simp only [Act.put, List.setIfInBounds_toArray, List.set_cons_zero, List.set_cons_succ]
  refine wpList_nil ?_
  go_upto_region 6 with fail
  refine wp_region_lit ?_
  refine lv (by kernel_rfl) (some 33) rfl (v := ?_) ?_ ?_
  rotate_left
  · go_simp; try with_reducible rfl
  try simp only [Act.put, List.setIfInBounds_toArray, List.set_cons_zero, List.set_cons_succ]
  refine lv (by kernel_rfl) (some 8) rfl (v := ?_) ?_ ?_
  rotate_left
  · go_simp; try with_reducible rfl
  try simp only [Act.put, List.setIfInBounds_toArray, List.set_cons_zero, List.set_cons_succ]
  refine wpList_nil ?_
  go_upto_region 7 with fail
  refine wp_region_lit ?_
  refine lv (by kernel_rfl) (some 34) rfl (v := ?_) ?_ ?_
  rotate_left
  · go_simp; try with_reducible rfl
  try simp only [Act.put, List.setIfInBounds_toArray, List.set_cons_zero, List.set_cons_succ]
  refine lv (by kernel_rfl) (some 35) rfl (v := ?_) ?_ ?_
  rotate_left
  · go_simp; try with_reducible rfl
  try simp only [Act.put, List.setIfInBounds_toArray, List.set_cons_zero, List.set_cons_succ]
  refine lv (by kernel_rfl) (some 36) rfl (v := ?_) ?_ ?_
  rotate_left
  · go_simp; try with_reducible rfl
  try simp only [Act.put, List.setIfInBounds_toArray, List.set_cons_zero, List.set_cons_succ]
  refine lv (by kernel_rfl) (some 37) rfl (v := ?_) ?_ ?_
  rotate_left
  · go_simp; try with_reducible rfl
  try simp only [Act.put, List.setIfInBounds_toArray, List.set_cons_zero, List.set_cons_succ]
  refine wpList_nil ?_
  go_upto_region 8 with fail
  refine wp_region_lit ?_
  refine lv (by kernel_rfl) (some 38) rfl (v := ?_) ?_ ?_
  rotate_left
  · go_simp; try with_reducible rfl
  try simp only [Act.put, List.setIfInBounds_toArray, List.set_cons_zero, List.set_cons_succ]
  refine lv (by kernel_rfl) (some 39) rfl (v := ?_) ?_ ?_
  rotate_left
  · go_simp; try with_reducible rfl
  try simp only [Act.put, List.setIfInBounds_toArray, List.set_cons_zero, List.set_cons_succ]
  refine lv (by kernel_rfl) (some 8) rfl (v := ?_) ?_ ?_
  rotate_left
  · go_simp; try with_reducible rfl
  try simp only [Act.put, List.setIfInBounds_toArray, List.set_cons_zero, List.set_cons_succ]
  refine wpList_nil ?_
  go_upto_region 9 with fail
  refine wp_region_lit ?_
  refine lv (by kernel_rfl) (some 40) rfl (v := ?_) ?_ ?_
  rotate_left
  · go_simp; try with_reducible rfl
  try simp only [Act.put, List.setIfInBounds_toArray, List.set_cons_zero, List.set_cons_succ]
  refine lv (by kernel_rfl) (some 41) rfl (v := ?_) ?_ ?_
  rotate_left
  · go_simp; try with_reducible rfl
  try simp only [Act.put, List.setIfInBounds_toArray, List.set_cons_zero, List.set_cons_succ]
  refine wpList_nil ?_
  go_upto_region 11 with fail
  refine wp_region_lit ?_
  refine lv (by kernel_rfl) (some 42) rfl (v := ?_) ?_ ?_
  rotate_left
  · go_simp; try with_reducible rfl
  try simp only [Act.put, List.setIfInBounds_toArray, List.set_cons_zero, List.set_cons_succ]
  refine lv (by kernel_rfl) (some 43) rfl (v := ?_) ?_ ?_
  rotate_left
  · go_simp; try with_reducible rfl
  try simp only [Act.put, List.setIfInBounds_toArray, List.set_cons_zero, List.set_cons_succ]
  refine wpList_nil ?_
  go_upto_region 13 with fail
  refine wp_region_lit ?_
  refine lv (by kernel_rfl) (some 44) rfl (v := ?_) ?_ ?_
  rotate_left
  · go_simp; try with_reducible rfl
  try simp only [Act.put, List.setIfInBounds_toArray, List.set_cons_zero, List.set_cons_succ]
  refine lv (by kernel_rfl) (some 45) rfl (v := ?_) ?_ ?_
  rotate_left
  · go_simp; try with_reducible rfl
  try simp only [Act.put, List.setIfInBounds_toArray, List.set_cons_zero, List.set_cons_succ]
  refine lv (by kernel_rfl) (some 46) rfl (v := ?_) ?_ ?_
  rotate_left
  · go_simp; try with_reducible rfl
  try simp only [Act.put, List.setIfInBounds_toArray, List.set_cons_zero, List.set_cons_succ]
  refine ly M0 (some 47) rfl (yi_cell 0 9 (.tmp 46) rfl (by kernel_rfl) rfl _ rfl (.string d) Try.underlying9 rfl rfl) ?_
  try simp only [Act.put, List.setIfInBounds_toArray, List.set_cons_zero, List.set_cons_succ]
  refine lv (by kernel_rfl) (some 48) rfl (v := ?_) ?_ ?_
  rotate_left
  · go_simp; try with_reducible rfl
  try simp only [Act.put, List.setIfInBounds_toArray, List.set_cons_zero, List.set_cons_succ]
  refine l_store M0 1 (by kernel_rfl) 26 (.tmp 6) _ rfl rfl rfl rfl _ rfl (by kernel_rfl) (by rfl) (by kernel_rfl) _ rfl (fun s1 M1 => ?_)
  clear M0
  try simp only [List.cons_append, List.nil_append, List.set_cons_zero, List.set_cons_succ] at M1
  try simp only [Act.put, List.setIfInBounds_toArray, List.set_cons_zero, List.set_cons_succ]
  refine lv (by kernel_rfl) (some 7) rfl (v := ?_) ?_ ?_
  rotate_left
  · go_simp; try with_reducible rfl
  try simp only [Act.put, List.setIfInBounds_toArray, List.set_cons_zero, List.set_cons_succ]
  refine wpList_nil ?_
  go_wp2_with fail
  exact bodyPost_ret (v := retM (some (3, 4, (b - 20))) d) (results_cell_tmp rfl (M1.row (i := 1) rfl) _ rfl _ rfl Try.underlying26 rfl (by kernel_rfl)) rfl ⟨rfl, M1.below⟩
set_option maxRecDepth 100000 in
set_option maxHeartbeats 4000000 in
theorem rto4_m101 (k c r : Int) (d : ByteArray) (a b : Int) (w : World) (hs : Sides a b) (h2 : (k == 2) = true) (h0 : (c == 0) = true) (hwr : IntKind.i64.wrap r = r) (hw1 : IntKind.i64.wrap (r - 20) = r - 20) (hw2 : IntKind.i64.wrap (b - 20) = b - 20) (t1 : a < r - 20) (t2 : ¬ b - 20 < a) (t3 : a < 68) :
    Calls Try.prog 16 #[msgV k c r d, .int .i64 a, .int .i64 b] w fun e w' => e = .returned (retM (some (3, 4, 68)) d) ∧ Below w.heap.size w w' := by
  have c24 := fun w => rbounds_t a b w hs
  clear hs
  go_enter Try.func16, Try.ntmps16
  go_upto_region 1 with fail
  have M0 := Mem.two w 26 26 #[.int .i64 k, .int .i64 c, .int .u32 r, .string d] #[.int .i64 0, .int .i64 0, .int .u32 0, .string ⟨#[]⟩]
  refine wp_region_lit ?_
  refine lv (by kernel_rfl) (some 13) rfl (v := ?_) ?_ ?_
  rotate_left
  · go_simp; try with_reducible rfl
  try simp only [Act.put, List.setIfInBounds_toArray, List.set_cons_zero, List.set_cons_succ]
  refine lv (by kernel_rfl) (some 14) rfl (v := ?_) ?_ ?_
  rotate_left
  · go_simp; try with_reducible rfl
  try simp only [Act.put, List.setIfInBounds_toArray, List.set_cons_zero, List.set_cons_succ]
  refine l_same (by kernel_rfl) (some 15) rfl (c24 _) (by kernel_rfl) ?_
  try simp only [Act.put, List.setIfInBounds_toArray, List.set_cons_zero, List.set_cons_succ]
  refine lv (by kernel_rfl) (some 16) rfl (v := ?_) ?_ ?_
  rotate_left
  · go_simp; try with_reducible rfl
  try simp only [Act.put, List.setIfInBounds_toArray, List.set_cons_zero, List.set_cons_succ]
  refine wpList_nil ?_
  go_upto_region 3 with fail
  refine wp_region_lit ?_
  refine lv (by kernel_rfl) (some 18) rfl (v := ?_) ?_ ?_
  rotate_left
  · go_simp; try with_reducible rfl
  try simp only [Act.put, List.setIfInBounds_toArray, List.set_cons_zero, List.set_cons_succ]
  refine ly M0 (some 19) rfl (yi_cell 0 3 (.tmp 18) rfl (by kernel_rfl) rfl _ rfl (.int .i64 k) Try.underlying3 rfl rfl) ?_
  try simp only [Act.put, List.setIfInBounds_toArray, List.set_cons_zero, List.set_cons_succ]
  refine lv (by kernel_rfl) (some 20) rfl (v := ?_) ?_ ?_
  rotate_left
  · go_simp; try with_reducible rfl
  try simp only [Act.put, List.setIfInBounds_toArray, List.set_cons_zero, List.set_cons_succ]
  refine lv (by kernel_rfl) (some 21) rfl (v := ?_) ?_ ?_
  rotate_left
  · go_simp; try with_reducible rfl
  try simp only [Act.put, List.setIfInBounds_toArray, List.set_cons_zero, List.set_cons_succ]
  refine lv (by kernel_rfl) (some 22) rfl (v := ?_) ?_ ?_
  rotate_left
  · go_simp; try with_reducible rfl
  try simp only [Act.put, List.setIfInBounds_toArray, List.set_cons_zero, List.set_cons_succ]
  refine ly M0 (some 23) rfl (yi_cell 0 3 (.tmp 22) rfl (by kernel_rfl) rfl _ rfl (.int .i64 c) Try.underlying3 rfl rfl) ?_
  try simp only [Act.put, List.setIfInBounds_toArray, List.set_cons_zero, List.set_cons_succ]
  refine lv (by kernel_rfl) (some 24) rfl (v := ?_) ?_ ?_
  rotate_left
  · go_simp; try with_reducible rfl
  try simp only [Act.put, List.setIfInBounds_toArray, List.set_cons_zero, List.set_cons_succ]
  refine lv (by kernel_rfl) (some 25) rfl (v := ?_) ?_ ?_
  rotate_left
  · go_simp; try with_reducible rfl
  try simp only [Act.put, List.setIfInBounds_toArray, List.set_cons_zero, List.set_cons_succ]
  refine wpList_nil ?_
  go_upto_region 4 with fail
  refine wp_region_lit ?_
  refine lv (by kernel_rfl) (some 26) rfl (v := ?_) ?_ ?_
  rotate_left
  · go_simp; try with_reducible rfl
  try simp only [Act.put, List.setIfInBounds_toArray, List.set_cons_zero, List.set_cons_succ]
  refine ly M0 (some 27) rfl (yi_cell 0 24 (.tmp 26) rfl (by kernel_rfl) rfl _ rfl (.int .u32 r) Try.underlying24 rfl rfl) ?_
  try simp only [Act.put, List.setIfInBounds_toArray, List.set_cons_zero, List.set_cons_succ]
  refine lv (by kernel_rfl) (some 28) rfl (v := ?_) ?_ ?_
  rotate_left
  · go_simp; try with_reducible rfl
  try simp only [Act.put, List.setIfInBounds_toArray, List.set_cons_zero, List.set_cons_succ]
  refine lv (by kernel_rfl) (some 29) rfl (v := ?_) ?_ ?_
  rotate_left
  · go_simp; try with_reducible rfl
  try simp only [Act.put, List.setIfInBounds_toArray, List.set_cons_zero, List.set_cons_succ]
  refine lv (by kernel_rfl) (some 8) rfl (v := ?_) ?_ ?_
  rotate_left
  · go_simp; try with_reducible rfl
  try simp only [Act.put, List.setIfInBounds_toArray, List.set_cons_zero, List.set_cons_succ]
  refine wpList_nil ?_
  go_upto_region 5 with fail
  refine wp_region_lit ?_
  refine lv (by kernel_rfl) (some 30) rfl (v := ?_) ?_ ?_
  rotate_left
  · go_simp; try with_reducible rfl
  try simp only [Act.put, List.setIfInBounds_toArray, List.set_cons_zero, List.set_cons_succ]
  refine lv (by kernel_rfl) (some 31) rfl (v := ?_) ?_ ?_
  rotate_left
  · go_simp; try with_reducible rfl
  try simp only [Act.put, List.setIfInBounds_toArray, List.set_cons_zero, List.set_cons_succ]
  refine lv (by kernel_rfl) (some 32) rfl (v := ?_) ?_ ?_
  rotate_left
  · go_simp; try with_reducible rfl
  try simp only [Act.put, List.setIfInBounds_toArray, List.set_cons_zero, List.set_cons_succ]
  refine wpList_nil ?_
  go_upto_region 6 with fail
  refine wp_region_lit ?_
  refine lv (by kernel_rfl) (some 33) rfl (v := ?_) ?_ ?_
  rotate_left
  · go_simp; try with_reducible rfl
  try simp only [Act.put, List.setIfInBounds_toArray, List.set_cons_zero, List.set_cons_succ]
  refine lv (by kernel_rfl) (some 8) rfl (v := ?_) ?_ ?_
  rotate_left
  · go_simp; try with_reducible rfl
  try simp only [Act.put, List.setIfInBounds_toArray, List.set_cons_zero, List.set_cons_succ]
  refine wpList_nil ?_
  go_upto_region 7 with fail
  refine wp_region_lit ?_
  refine lv (by kernel_rfl) (some 34) rfl (v := ?_) ?_ ?_
  rotate_left
  · go_simp; try with_reducible rfl
  try simp only [Act.put, List.setIfInBounds_toArray, List.set_cons_zero, List.set_cons_succ]
  refine lv (by kernel_rfl) (some 35) rfl (v := ?_) ?_ ?_
  rotate_left
  · go_simp; try with_reducible rfl
  try simp only [Act.put, List.setIfInBounds_toArray, List.set_cons_zero, List.set_cons_succ]
  refine lv (by kernel_rfl) (some 36) rfl (v := ?_) ?_ ?_
  rotate_left
  · go_simp; try with_reducible rfl
  try simp only [Act.put, List.setIfInBounds_toArray, List.set_cons_zero, List.set_cons_succ]
  refine lv (by kernel_rfl) (some 37) rfl (v := ?_) ?_ ?_
  rotate_left
  · go_simp; try with_reducible rfl
  try simp only [Act.put, List.setIfInBounds_toArray, List.set_cons_zero, List.set_cons_succ]
  refine wpList_nil ?_
  go_upto_region 9 with fail
  refine wp_region_lit ?_
  refine lv (by kernel_rfl) (some 40) rfl (v := ?_) ?_ ?_
  rotate_left
  · go_simp; try with_reducible rfl
  try simp only [Act.put, List.setIfInBounds_toArray, List.set_cons_zero, List.set_cons_succ]
  refine lv (by kernel_rfl) (some 41) rfl (v := ?_) ?_ ?_
  rotate_left
  · go_simp; try with_reducible rfl
  try simp only [Act.put, List.setIfInBounds_toArray, List.set_cons_zero, List.set_cons_succ]
  refine wpList_nil ?_
  go_upto_region 10 with fail
  refine wp_region_lit ?_
  refine lv (by kernel_rfl) (some 8) rfl (v := ?_) ?_ ?_
  rotate_left
  · go_simp; try with_reducible rfl
  try simp only [Act.put, List.setIfInBounds_toArray, List.set_cons_zero, List.set_cons_succ]
  refine wpList_nil ?_
  go_upto_region 11 with fail
  refine wp_region_lit ?_
  refine lv (by kernel_rfl) (some 42) rfl (v := ?_) ?_ ?_
  rotate_left
  · go_simp; (try simp only [IntKind.wrap_u32, Int.reduceMod]); try with_reducible rfl
  try simp only [Act.put, List.setIfInBounds_toArray, List.set_cons_zero, List.set_cons_succ]
  refine lv (by kernel_rfl) (some 43) rfl (v := ?_) ?_ ?_
  rotate_left
  · go_simp; (try simp only [IntKind.wrap_u32, Int.reduceMod]); try with_reducible rfl
  try simp only [Act.put, List.setIfInBounds_toArray, List.set_cons_zero, List.set_cons_succ]
  refine wpList_nil ?_
  go_upto_region 13 with fail
  refine wp_region_lit ?_
  refine lv (by kernel_rfl) (some 44) rfl (v := ?_) ?_ ?_
  rotate_left
  · go_simp; (try simp only [IntKind.wrap_u32, Int.reduceMod]); try with_reducible rfl
  try simp only [Act.put, List.setIfInBounds_toArray, List.set_cons_zero, List.set_cons_succ]
  refine lv (by kernel_rfl) (some 45) rfl (v := ?_) ?_ ?_
  rotate_left
  · go_simp; (try simp only [IntKind.wrap_u32, Int.reduceMod]); try with_reducible rfl
  try simp only [Act.put, List.setIfInBounds_toArray, List.set_cons_zero, List.set_cons_succ]
  refine lv (by kernel_rfl) (some 46) rfl (v := ?_) ?_ ?_
  rotate_left
  · go_simp; (try simp only [IntKind.wrap_u32, Int.reduceMod]); try with_reducible rfl
  try simp only [Act.put, List.setIfInBounds_toArray, List.set_cons_zero, List.set_cons_succ]
  refine ly M0 (some 47) rfl (yi_cell 0 9 (.tmp 46) rfl (by kernel_rfl) rfl _ rfl (.string d) Try.underlying9 rfl rfl) ?_
  try simp only [Act.put, List.setIfInBounds_toArray, List.set_cons_zero, List.set_cons_succ]
  refine lv (by kernel_rfl) (some 48) rfl (v := ?_) ?_ ?_
  rotate_left
  · go_simp; (try simp only [IntKind.wrap_u32, Int.reduceMod]); try with_reducible rfl
  try simp only [Act.put, List.setIfInBounds_toArray, List.set_cons_zero, List.set_cons_succ]
  refine l_store M0 1 (by kernel_rfl) 26 (.tmp 6) _ rfl rfl rfl rfl _ rfl (by kernel_rfl) (by rfl) (by kernel_rfl) _ rfl (fun s1 M1 => ?_)
  clear M0
  try simp only [List.cons_append, List.nil_append, List.set_cons_zero, List.set_cons_succ] at M1
  try simp only [Act.put, List.setIfInBounds_toArray, List.set_cons_zero, List.set_cons_succ]
  refine lv (by kernel_rfl) (some 7) rfl (v := ?_) ?_ ?_
  rotate_left
  · go_simp; (try simp only [IntKind.wrap_u32, Int.reduceMod]); try with_reducible rfl
  try simp only [Act.put, List.setIfInBounds_toArray, List.set_cons_zero, List.set_cons_succ]
  refine wpList_nil ?_
  go_wp2_with fail
  exact bodyPost_ret (v := retM (some (3, 4, 68)) d) (results_cell_tmp rfl (M1.row (i := 1) rfl) _ rfl _ rfl Try.underlying26 rfl (by kernel_rfl)) rfl ⟨rfl, M1.below⟩
set_option maxRecDepth 100000 in
set_option maxHeartbeats 4000000 in
theorem rto4_m100 (k c r : Int) (d : ByteArray) (a b : Int) (w : World) (hs : Sides a b) (h2 : (k == 2) = true) (h0 : (c == 0) = true) (hwr : IntKind.i64.wrap r = r) (hw1 : IntKind.i64.wrap (r - 20) = r - 20) (hw2 : IntKind.i64.wrap (b - 20) = b - 20) (t1 : a < r - 20) (t2 : ¬ b - 20 < a) (t3 : ¬ a < 68) (t4 : ¬ 65535 < a) (hz : IntKind.u32.wrap a = a) :
    Calls Try.prog 16 #[msgV k c r d, .int .i64 a, .int .i64 b] w fun e w' => e = .returned (retM (some (3, 4, a)) d) ∧ Below w.heap.size w w' := by
  have c24 := fun w => rbounds_t a b w hs
  clear hs
  go_enter Try.func16, Try.ntmps16
  go_upto_region 1 with fail
  have M0 := Mem.two w 26 26 #[.int .i64 k, .int .i64 c, .int .u32 r, .string d] #[.int .i64 0, .int .i64 0, .int .u32 0, .string ⟨#[]⟩]
  refine wp_region_lit ?_
  refine lv (by kernel_rfl) (some 13) rfl (v := ?_) ?_ ?_
  rotate_left
  · go_simp; try with_reducible rfl
  try simp only [Act.put, List.setIfInBounds_toArray, List.set_cons_zero, List.set_cons_succ]
  refine lv (by kernel_rfl) (some 14) rfl (v := ?_) ?_ ?_
  rotate_left
  · go_simp; try with_reducible rfl
  try simp only [Act.put, List.setIfInBounds_toArray, List.set_cons_zero, List.set_cons_succ]
  refine l_same (by kernel_rfl) (some 15) rfl (c24 _) (by kernel_rfl) ?_
  try simp only [Act.put, List.setIfInBounds_toArray, List.set_cons_zero, List.set_cons_succ]
  refine lv (by kernel_rfl) (some 16) rfl (v := ?_) ?_ ?_
  rotate_left
  · go_simp; try with_reducible rfl
  try simp only [Act.put, List.setIfInBounds_toArray, List.set_cons_zero, List.set_cons_succ]
  refine wpList_nil ?_
  go_upto_region 3 with fail
  refine wp_region_lit ?_
  refine lv (by kernel_rfl) (some 18) rfl (v := ?_) ?_ ?_
  rotate_left
  · go_simp; try with_reducible rfl
  try simp only [Act.put, List.setIfInBounds_toArray, List.set_cons_zero, List.set_cons_succ]
  refine ly M0 (some 19) rfl (yi_cell 0 3 (.tmp 18) rfl (by kernel_rfl) rfl _ rfl (.int .i64 k) Try.underlying3 rfl rfl) ?_
  try simp only [Act.put, List.setIfInBounds_toArray, List.set_cons_zero, List.set_cons_succ]
  refine lv (by kernel_rfl) (some 20) rfl (v := ?_) ?_ ?_
  rotate_left
  · go_simp; try with_reducible rfl
  try simp only [Act.put, List.setIfInBounds_toArray, List.set_cons_zero, List.set_cons_succ]
  refine lv (by kernel_rfl) (some 21) rfl (v := ?_) ?_ ?_
  rotate_left
  · go_simp; try with_reducible rfl
  try simp only [Act.put, List.setIfInBounds_toArray, List.set_cons_zero, List.set_cons_succ]
  refine lv (by kernel_rfl) (some 22) rfl (v := ?_) ?_ ?_
  rotate_left
  · go_simp; try with_reducible rfl
  try simp only [Act.put, List.setIfInBounds_toArray, List.set_cons_zero, List.set_cons_succ]
  refine ly M0 (some 23) rfl (yi_cell 0 3 (.tmp 22) rfl (by kernel_rfl) rfl _ rfl (.int .i64 c) Try.underlying3 rfl rfl) ?_
  try simp only [Act.put, List.setIfInBounds_toArray, List.set_cons_zero, List.set_cons_succ]
  refine lv (by kernel_rfl) (some 24) rfl (v := ?_) ?_ ?_
  rotate_left
  · go_simp; try with_reducible rfl
  try simp only [Act.put, List.setIfInBounds_toArray, List.set_cons_zero, List.set_cons_succ]
  refine lv (by kernel_rfl) (some 25) rfl (v := ?_) ?_ ?_
  rotate_left
  · go_simp; try with_reducible rfl
  try simp only [Act.put, List.setIfInBounds_toArray, List.set_cons_zero, List.set_cons_succ]
  refine wpList_nil ?_
  go_upto_region 4 with fail
  refine wp_region_lit ?_
  refine lv (by kernel_rfl) (some 26) rfl (v := ?_) ?_ ?_
  rotate_left
  · go_simp; try with_reducible rfl
  try simp only [Act.put, List.setIfInBounds_toArray, List.set_cons_zero, List.set_cons_succ]
  refine ly M0 (some 27) rfl (yi_cell 0 24 (.tmp 26) rfl (by kernel_rfl) rfl _ rfl (.int .u32 r) Try.underlying24 rfl rfl) ?_
  try simp only [Act.put, List.setIfInBounds_toArray, List.set_cons_zero, List.set_cons_succ]
  refine lv (by kernel_rfl) (some 28) rfl (v := ?_) ?_ ?_
  rotate_left
  · go_simp; try with_reducible rfl
  try simp only [Act.put, List.setIfInBounds_toArray, List.set_cons_zero, List.set_cons_succ]
  refine lv (by kernel_rfl) (some 29) rfl (v := ?_) ?_ ?_
  rotate_left
  · go_simp; try with_reducible rfl
  try simp only [Act.put, List.setIfInBounds_toArray, List.set_cons_zero, List.set_cons_succ]
  refine lv (by kernel_rfl) (some 8) rfl (v := ?_) ?_ ?_
  rotate_left
  · go_simp; try with_reducible rfl
  try simp only [Act.put, List.setIfInBounds_toArray, List.set_cons_zero, List.set_cons_succ]
  refine wpList_nil ?_
  go_upto_region 5 with fail
  refine wp_region_lit ?_
  refine lv (by kernel_rfl) (some 30) rfl (v := ?_) ?_ ?_
  rotate_left
  · go_simp; try with_reducible rfl
  try simp only [Act.put, List.setIfInBounds_toArray, List.set_cons_zero, List.set_cons_succ]
  refine lv (by kernel_rfl) (some 31) rfl (v := ?_) ?_ ?_
  rotate_left
  · go_simp; try with_reducible rfl
  try simp only [Act.put, List.setIfInBounds_toArray, List.set_cons_zero, List.set_cons_succ]
  refine lv (by kernel_rfl) (some 32) rfl (v := ?_) ?_ ?_
  rotate_left
  · go_simp; try with_reducible rfl
  try simp only [Act.put, List.setIfInBounds_toArray, List.set_cons_zero, List.set_cons_succ]
  refine wpList_nil ?_
  go_upto_region 6 with fail
  refine wp_region_lit ?_
  refine lv (by kernel_rfl) (some 33) rfl (v := ?_) ?_ ?_
  rotate_left
  · go_simp; try with_reducible rfl
  try simp only [Act.put, List.setIfInBounds_toArray, List.set_cons_zero, List.set_cons_succ]
  refine lv (by kernel_rfl) (some 8) rfl (v := ?_) ?_ ?_
  rotate_left
  · go_simp; try with_reducible rfl
  try simp only [Act.put, List.setIfInBounds_toArray, List.set_cons_zero, List.set_cons_succ]
  refine wpList_nil ?_
  go_upto_region 7 with fail
  refine wp_region_lit ?_
  refine lv (by kernel_rfl) (some 34) rfl (v := ?_) ?_ ?_
  rotate_left
  · go_simp; try with_reducible rfl
  try simp only [Act.put, List.setIfInBounds_toArray, List.set_cons_zero, List.set_cons_succ]
  refine lv (by kernel_rfl) (some 35) rfl (v := ?_) ?_ ?_
  rotate_left
  · go_simp; try with_reducible rfl
  try simp only [Act.put, List.setIfInBounds_toArray, List.set_cons_zero, List.set_cons_succ]
  refine lv (by kernel_rfl) (some 36) rfl (v := ?_) ?_ ?_
  rotate_left
  · go_simp; try with_reducible rfl
  try simp only [Act.put, List.setIfInBounds_toArray, List.set_cons_zero, List.set_cons_succ]
  refine lv (by kernel_rfl) (some 37) rfl (v := ?_) ?_ ?_
  rotate_left
  · go_simp; try with_reducible rfl
  try simp only [Act.put, List.setIfInBounds_toArray, List.set_cons_zero, List.set_cons_succ]
  refine wpList_nil ?_
  go_upto_region 9 with fail
  refine wp_region_lit ?_
  refine lv (by kernel_rfl) (some 40) rfl (v := ?_) ?_ ?_
  rotate_left
  · go_simp; try with_reducible rfl
  try simp only [Act.put, List.setIfInBounds_toArray, List.set_cons_zero, List.set_cons_succ]
  refine lv (by kernel_rfl) (some 41) rfl (v := ?_) ?_ ?_
  rotate_left
  · go_simp; try with_reducible rfl
  try simp only [Act.put, List.setIfInBounds_toArray, List.set_cons_zero, List.set_cons_succ]
  refine wpList_nil ?_
  go_upto_region 11 with fail
  refine wp_region_lit ?_
  refine lv (by kernel_rfl) (some 42) rfl (v := ?_) ?_ ?_
  rotate_left
  · go_simp; try with_reducible rfl
  try simp only [Act.put, List.setIfInBounds_toArray, List.set_cons_zero, List.set_cons_succ]
  refine lv (by kernel_rfl) (some 43) rfl (v := ?_) ?_ ?_
  rotate_left
  · go_simp; try with_reducible rfl
  try simp only [Act.put, List.setIfInBounds_toArray, List.set_cons_zero, List.set_cons_succ]
  refine wpList_nil ?_
  go_upto_region 13 with fail
  refine wp_region_lit ?_
  refine lv (by kernel_rfl) (some 44) rfl (v := ?_) ?_ ?_
  rotate_left
  · go_simp; try with_reducible rfl
  try simp only [Act.put, List.setIfInBounds_toArray, List.set_cons_zero, List.set_cons_succ]
  refine lv (by kernel_rfl) (some 45) rfl (v := ?_) ?_ ?_
  rotate_left
  · go_simp; try with_reducible rfl
  try simp only [Act.put, List.setIfInBounds_toArray, List.set_cons_zero, List.set_cons_succ]
  refine lv (by kernel_rfl) (some 46) rfl (v := ?_) ?_ ?_
  rotate_left
  · go_simp; try with_reducible rfl
  try simp only [Act.put, List.setIfInBounds_toArray, List.set_cons_zero, List.set_cons_succ]
  refine ly M0 (some 47) rfl (yi_cell 0 9 (.tmp 46) rfl (by kernel_rfl) rfl _ rfl (.string d) Try.underlying9 rfl rfl) ?_
  try simp only [Act.put, List.setIfInBounds_toArray, List.set_cons_zero, List.set_cons_succ]
  refine lv (by kernel_rfl) (some 48) rfl (v := ?_) ?_ ?_
  rotate_left
  · go_simp; try with_reducible rfl
  try simp only [Act.put, List.setIfInBounds_toArray, List.set_cons_zero, List.set_cons_succ]
  refine l_store M0 1 (by kernel_rfl) 26 (.tmp 6) _ rfl rfl rfl rfl _ rfl (by kernel_rfl) (by rfl) (by kernel_rfl) _ rfl (fun s1 M1 => ?_)
  clear M0
  try simp only [List.cons_append, List.nil_append, List.set_cons_zero, List.set_cons_succ] at M1
  try simp only [Act.put, List.setIfInBounds_toArray, List.set_cons_zero, List.set_cons_succ]
  refine lv (by kernel_rfl) (some 7) rfl (v := ?_) ?_ ?_
  rotate_left
  · go_simp; try with_reducible rfl
  try simp only [Act.put, List.setIfInBounds_toArray, List.set_cons_zero, List.set_cons_succ]
  refine wpList_nil ?_
  go_wp2_with fail
  exact bodyPost_ret (v := retM (some (3, 4, a)) d) (results_cell_tmp rfl (M1.row (i := 1) rfl) _ rfl _ rfl Try.underlying26 rfl (by kernel_rfl)) rfl ⟨rfl, M1.below⟩
set_option maxRecDepth 100000 in
set_option maxHeartbeats 4000000 in
theorem rto4_m011 (k c r : Int) (d : ByteArray) (a b : Int) (w : World) (hs : Sides a b) (h2 : (k == 2) = true) (h0 : (c == 0) = true) (hwr : IntKind.i64.wrap r = r) (hw1 : IntKind.i64.wrap (r - 20) = r - 20) (hw2 : IntKind.i64.wrap (b - 20) = b - 20) (t1 : ¬ a < r - 20) (t2 : b - 20 < (r - 20)) (t3 : (b - 20) < 68) :
    Calls Try.prog 16 #[msgV k c r d, .int .i64 a, .int .i64 b] w fun e w' => e = .returned (retM (some (3, 4, 68)) d) ∧ Below w.heap.size w w' := by
  have c24 := fun w => rbounds_t a b w hs
  clear hs
  go_enter Try.func16, Try.ntmps16
  go_upto_region 1 with fail
  have M0 := Mem.two w 26 26 #[.int .i64 k, .int .i64 c, .int .u32 r, .string d] #[.int .i64 0, .int .i64 0, .int .u32 0, .string ⟨#[]⟩]
  refine wp_region_lit ?_
  refine lv (by kernel_rfl) (some 13) rfl (v := ?_) ?_ ?_
  rotate_left
  · go_simp; try with_reducible rfl
  try simp only [Act.put, List.setIfInBounds_toArray, List.set_cons_zero, List.set_cons_succ]
  refine lv (by kernel_rfl) (some 14) rfl (v := ?_) ?_ ?_
  rotate_left
  · go_simp; try with_reducible rfl
  try simp only [Act.put, List.setIfInBounds_toArray, List.set_cons_zero, List.set_cons_succ]
  refine l_same (by kernel_rfl) (some 15) rfl (c24 _) (by kernel_rfl) ?_
  try simp only [Act.put, List.setIfInBounds_toArray, List.set_cons_zero, List.set_cons_succ]
  refine lv (by kernel_rfl) (some 16) rfl (v := ?_) ?_ ?_
  rotate_left
  · go_simp; try with_reducible rfl
  try simp only [Act.put, List.setIfInBounds_toArray, List.set_cons_zero, List.set_cons_succ]
  refine wpList_nil ?_
  go_upto_region 3 with fail
  refine wp_region_lit ?_
  refine lv (by kernel_rfl) (some 18) rfl (v := ?_) ?_ ?_
  rotate_left
  · go_simp; try with_reducible rfl
  try simp only [Act.put, List.setIfInBounds_toArray, List.set_cons_zero, List.set_cons_succ]
  refine ly M0 (some 19) rfl (yi_cell 0 3 (.tmp 18) rfl (by kernel_rfl) rfl _ rfl (.int .i64 k) Try.underlying3 rfl rfl) ?_
  try simp only [Act.put, List.setIfInBounds_toArray, List.set_cons_zero, List.set_cons_succ]
  refine lv (by kernel_rfl) (some 20) rfl (v := ?_) ?_ ?_
  rotate_left
  · go_simp; try with_reducible rfl
  try simp only [Act.put, List.setIfInBounds_toArray, List.set_cons_zero, List.set_cons_succ]
  refine lv (by kernel_rfl) (some 21) rfl (v := ?_) ?_ ?_
  rotate_left
  · go_simp; try with_reducible rfl
  try simp only [Act.put, List.setIfInBounds_toArray, List.set_cons_zero, List.set_cons_succ]
  refine lv (by kernel_rfl) (some 22) rfl (v := ?_) ?_ ?_
  rotate_left
  · go_simp; try with_reducible rfl
  try simp only [Act.put, List.setIfInBounds_toArray, List.set_cons_zero, List.set_cons_succ]
  refine ly M0 (some 23) rfl (yi_cell 0 3 (.tmp 22) rfl (by kernel_rfl) rfl _ rfl (.int .i64 c) Try.underlying3 rfl rfl) ?_
  try simp only [Act.put, List.setIfInBounds_toArray, List.set_cons_zero, List.set_cons_succ]
  refine lv (by kernel_rfl) (some 24) rfl (v := ?_) ?_ ?_
  rotate_left
  · go_simp; try with_reducible rfl
  try simp only [Act.put, List.setIfInBounds_toArray, List.set_cons_zero, List.set_cons_succ]
  refine lv (by kernel_rfl) (some 25) rfl (v := ?_) ?_ ?_
  rotate_left
  · go_simp; try with_reducible rfl
  try simp only [Act.put, List.setIfInBounds_toArray, List.set_cons_zero, List.set_cons_succ]
  refine wpList_nil ?_
  go_upto_region 4 with fail
  refine wp_region_lit ?_
  refine lv (by kernel_rfl) (some 26) rfl (v := ?_) ?_ ?_
  rotate_left
  · go_simp; try with_reducible rfl
  try simp only [Act.put, List.setIfInBounds_toArray, List.set_cons_zero, List.set_cons_succ]
  refine ly M0 (some 27) rfl (yi_cell 0 24 (.tmp 26) rfl (by kernel_rfl) rfl _ rfl (.int .u32 r) Try.underlying24 rfl rfl) ?_
  try simp only [Act.put, List.setIfInBounds_toArray, List.set_cons_zero, List.set_cons_succ]
  refine lv (by kernel_rfl) (some 28) rfl (v := ?_) ?_ ?_
  rotate_left
  · go_simp; try with_reducible rfl
  try simp only [Act.put, List.setIfInBounds_toArray, List.set_cons_zero, List.set_cons_succ]
  refine lv (by kernel_rfl) (some 29) rfl (v := ?_) ?_ ?_
  rotate_left
  · go_simp; try with_reducible rfl
  try simp only [Act.put, List.setIfInBounds_toArray, List.set_cons_zero, List.set_cons_succ]
  refine lv (by kernel_rfl) (some 8) rfl (v := ?_) ?_ ?_
  rotate_left
  · go_simp; try with_reducible rfl
  try simp only [Act.put, List.setIfInBounds_toArray, List.set_cons_zero, List.set_cons_succ]
  refine wpList_nil ?_
  go_upto_region 5 with fail
  refine wp_region_lit ?_
  refine lv (by kernel_rfl) (some 30) rfl (v := ?_) ?_ ?_
  rotate_left
  · go_simp; try with_reducible rfl
  try simp only [Act.put, List.setIfInBounds_toArray, List.set_cons_zero, List.set_cons_succ]
  refine lv (by kernel_rfl) (some 31) rfl (v := ?_) ?_ ?_
  rotate_left
  · go_simp; try with_reducible rfl
  try simp only [Act.put, List.setIfInBounds_toArray, List.set_cons_zero, List.set_cons_succ]
  refine lv (by kernel_rfl) (some 32) rfl (v := ?_) ?_ ?_
  rotate_left
  · go_simp; try with_reducible rfl
  try simp only [Act.put, List.setIfInBounds_toArray, List.set_cons_zero, List.set_cons_succ]
  refine wpList_nil ?_
  go_upto_region 7 with fail
  refine wp_region_lit ?_
  refine lv (by kernel_rfl) (some 34) rfl (v := ?_) ?_ ?_
  rotate_left
  · go_simp; try with_reducible rfl
  try simp only [Act.put, List.setIfInBounds_toArray, List.set_cons_zero, List.set_cons_succ]
  refine lv (by kernel_rfl) (some 35) rfl (v := ?_) ?_ ?_
  rotate_left
  · go_simp; try with_reducible rfl
  try simp only [Act.put, List.setIfInBounds_toArray, List.set_cons_zero, List.set_cons_succ]
  refine lv (by kernel_rfl) (some 36) rfl (v := ?_) ?_ ?_
  rotate_left
  · go_simp; try with_reducible rfl
  try simp only [Act.put, List.setIfInBounds_toArray, List.set_cons_zero, List.set_cons_succ]
  refine lv (by kernel_rfl) (some 37) rfl (v := ?_) ?_ ?_
  rotate_left
  · go_simp; try with_reducible rfl
  try simp only [Act.put, List.setIfInBounds_toArray, List.set_cons_zero, List.set_cons_succ]
  refine wpList_nil ?_
  go_upto_region 8 with fail
  refine wp_region_lit ?_
  refine lv (by kernel_rfl) (some 38) rfl (v := ?_) ?_ ?_
  rotate_left
  · go_simp; try with_reducible rfl
  try simp only [Act.put, List.setIfInBounds_toArray, List.set_cons_zero, List.set_cons_succ]
  refine lv (by kernel_rfl) (some 39) rfl (v := ?_) ?_ ?_
  rotate_left
  · go_simp; try with_reducible rfl
  try simp only [Act.put, List.setIfInBounds_toArray, List.set_cons_zero, List.set_cons_succ]
  refine lv (by kernel_rfl) (some 8) rfl (v := ?_) ?_ ?_
  rotate_left
  · go_simp; try with_reducible rfl
  try simp only [Act.put, List.setIfInBounds_toArray, List.set_cons_zero, List.set_cons_succ]
  refine wpList_nil ?_
  go_upto_region 9 with fail
  refine wp_region_lit ?_
  refine lv (by kernel_rfl) (some 40) rfl (v := ?_) ?_ ?_
  rotate_left
  · go_simp; try with_reducible rfl
  try simp only [Act.put, List.setIfInBounds_toArray, List.set_cons_zero, List.set_cons_succ]
  refine lv (by kernel_rfl) (some 41) rfl (v := ?_) ?_ ?_
  rotate_left
  · go_simp; try with_reducible rfl
  try simp only [Act.put, List.setIfInBounds_toArray, List.set_cons_zero, List.set_cons_succ]
  refine wpList_nil ?_
  go_upto_region 10 with fail
  refine wp_region_lit ?_
  refine lv (by kernel_rfl) (some 8) rfl (v := ?_) ?_ ?_
  rotate_left
  · go_simp; try with_reducible rfl
  try simp only [Act.put, List.setIfInBounds_toArray, List.set_cons_zero, List.set_cons_succ]
  refine wpList_nil ?_
  go_upto_region 11 with fail
  refine wp_region_lit ?_
  refine lv (by kernel_rfl) (some 42) rfl (v := ?_) ?_ ?_
  rotate_left
  · go_simp; (try simp only [IntKind.wrap_u32, Int.reduceMod]); try with_reducible rfl
  try simp only [Act.put, List.setIfInBounds_toArray, List.set_cons_zero, List.set_cons_succ]
  refine lv (by kernel_rfl) (some 43) rfl (v := ?_) ?_ ?_
  rotate_left
  · go_simp; (try simp only [IntKind.wrap_u32, Int.reduceMod]); try with_reducible rfl
  try simp only [Act.put, List.setIfInBounds_toArray, List.set_cons_zero, List.set_cons_succ]
  refine wpList_nil ?_
  go_upto_region 13 with fail
  refine wp_region_lit ?_
  refine lv (by kernel_rfl) (some 44) rfl (v := ?_) ?_ ?_
  rotate_left
  · go_simp; (try simp only [IntKind.wrap_u32, Int.reduceMod]); try with_reducible rfl
  try simp only [Act.put, List.setIfInBounds_toArray, List.set_cons_zero, List.set_cons_succ]
  refine lv (by kernel_rfl) (some 45) rfl (v := ?_) ?_ ?_
  rotate_left
  · go_simp; (try simp only [IntKind.wrap_u32, Int.reduceMod]); try with_reducible rfl
  try simp only [Act.put, List.setIfInBounds_toArray, List.set_cons_zero, List.set_cons_succ]
  refine lv (by kernel_rfl) (some 46) rfl (v := ?_) ?_ ?_
  rotate_left
  · go_simp; (try simp only [IntKind.wrap_u32, Int.reduceMod]); try with_reducible rfl
  try simp only [Act.put, List.setIfInBounds_toArray, List.set_cons_zero, List.set_cons_succ]
  refine ly M0 (some 47) rfl (yi_cell 0 9 (.tmp 46) rfl (by kernel_rfl) rfl _ rfl (.string d) Try.underlying9 rfl rfl) ?_
  try simp only [Act.put, List.setIfInBounds_toArray, List.set_cons_zero, List.set_cons_succ]
  refine lv (by kernel_rfl) (some 48) rfl (v := ?_) ?_ ?_
  rotate_left
  · go_simp; (try simp only [IntKind.wrap_u32, Int.reduceMod]); try with_reducible rfl
  try simp only [Act.put, List.setIfInBounds_toArray, List.set_cons_zero, List.set_cons_succ]
  refine l_store M0 1 (by kernel_rfl) 26 (.tmp 6) _ rfl rfl rfl rfl _ rfl (by kernel_rfl) (by rfl) (by kernel_rfl) _ rfl (fun s1 M1 => ?_)
  clear M0
  try simp only [List.cons_append, List.nil_append, List.set_cons_zero, List.set_cons_succ] at M1
  try simp only [Act.put, List.setIfInBounds_toArray, List.set_cons_zero, List.set_cons_succ]
  refine lv (by kernel_rfl) (some 7) rfl (v := ?_) ?_ ?_
  rotate_left
  · go_simp; (try simp only [IntKind.wrap_u32, Int.reduceMod]); try with_reducible rfl
  try simp only [Act.put, List.setIfInBounds_toArray, List.set_cons_zero, List.set_cons_succ]
  refine wpList_nil ?_
  go_wp2_with fail
  exact bodyPost_ret (v := retM (some (3, 4, 68)) d) (results_cell_tmp rfl (M1.row (i := 1) rfl) _ rfl _ rfl Try.underlying26 rfl (by kernel_rfl)) rfl ⟨rfl, M1.below⟩
set_option maxRecDepth 100000 in
set_option maxHeartbeats 4000000 in
theorem rto4_m010 (k c r : Int) (d : ByteArray) (a b : Int) (w : World) (hs : Sides a b) (h2 : (k == 2) = true) (h0 : (c == 0) = true) (hwr : IntKind.i64.wrap r = r) (hw1 : IntKind.i64.wrap (r - 20) = r - 20) (hw2 : IntKind.i64.wrap (b - 20) = b - 20) (t1 : ¬ a < r - 20) (t2 : b - 20 < (r - 20)) (t3 : ¬ (b - 20) < 68) (t4 : ¬ 65535 < (b - 20)) (hz : IntKind.u32.wrap (b - 20) = (b - 20)) :
    Calls Try.prog 16 #[msgV k c r d, .int .i64 a, .int .i64 b] w fun e w' => e = .returned (retM (some (3, 4, (b - 20))) d) ∧ Below w.heap.size w w' := by
  have c24 := fun w => rbounds_t a b w hs
  clear hs
  go_enter Try.func16, Try.ntmps16
  go_upto_region 1 with fail
  have M0 := Mem.two w 26 26 #[.int .i64 k, .int .i64 c, .int .u32 r, .string d] #[.int .i64 0, .int .i64 0, .int .u32 0, .string ⟨#[]⟩]
  refine wp_region_lit ?_
  refine lv (by kernel_rfl) (some 13) rfl (v := ?_) ?_ ?_
  rotate_left
  · go_simp; try with_reducible rfl
  try simp only [Act.put, List.setIfInBounds_toArray, List.set_cons_zero, List.set_cons_succ]
  refine lv (by kernel_rfl) (some 14) rfl (v := ?_) ?_ ?_
  rotate_left
  · go_simp; try with_reducible rfl
  try simp only [Act.put, List.setIfInBounds_toArray, List.set_cons_zero, List.set_cons_succ]
  refine l_same (by kernel_rfl) (some 15) rfl (c24 _) (by kernel_rfl) ?_
  try simp only [Act.put, List.setIfInBounds_toArray, List.set_cons_zero, List.set_cons_succ]
  refine lv (by kernel_rfl) (some 16) rfl (v := ?_) ?_ ?_
  rotate_left
  · go_simp; try with_reducible rfl
  try simp only [Act.put, List.setIfInBounds_toArray, List.set_cons_zero, List.set_cons_succ]
  refine wpList_nil ?_
  go_upto_region 3 with fail
  refine wp_region_lit ?_
  refine lv (by kernel_rfl) (some 18) rfl (v := ?_) ?_ ?_
  rotate_left
  · go_simp; try with_reducible rfl
  try simp only [Act.put, List.setIfInBounds_toArray, List.set_cons_zero, List.set_cons_succ]
  refine ly M0 (some 19) rfl (yi_cell 0 3 (.tmp 18) rfl (by kernel_rfl) rfl _ rfl (.int .i64 k) Try.underlying3 rfl rfl) ?_
  try simp only [Act.put, List.setIfInBounds_toArray, List.set_cons_zero, List.set_cons_succ]
  refine lv (by kernel_rfl) (some 20) rfl (v := ?_) ?_ ?_
  rotate_left
  · go_simp; try with_reducible rfl
  try simp only [Act.put, List.setIfInBounds_toArray, List.set_cons_zero, List.set_cons_succ]
  refine lv (by kernel_rfl) (some 21) rfl (v := ?_) ?_ ?_
  rotate_left
  · go_simp; try with_reducible rfl
  try simp only [Act.put, List.setIfInBounds_toArray, List.set_cons_zero, List.set_cons_succ]
  refine lv (by kernel_rfl) (some 22) rfl (v := ?_) ?_ ?_
  rotate_left
  · go_simp; try with_reducible rfl
  try simp only [Act.put, List.setIfInBounds_toArray, List.set_cons_zero, List.set_cons_succ]
  refine ly M0 (some 23) rfl (yi_cell 0 3 (.tmp 22) rfl (by kernel_rfl) rfl _ rfl (.int .i64 c) Try.underlying3 rfl rfl) ?_
  try simp only [Act.put, List.setIfInBounds_toArray, List.set_cons_zero, List.set_cons_succ]
  refine lv (by kernel_rfl) (some 24) rfl (v := ?_) ?_ ?_
  rotate_left
  · go_simp; try with_reducible rfl
  try simp only [Act.put, List.setIfInBounds_toArray, List.set_cons_zero, List.set_cons_succ]
  refine lv (by kernel_rfl) (some 25) rfl (v := ?_) ?_ ?_
  rotate_left
  · go_simp; try with_reducible rfl
  try simp only [Act.put, List.setIfInBounds_toArray, List.set_cons_zero, List.set_cons_succ]
  refine wpList_nil ?_
  go_upto_region 4 with fail
  refine wp_region_lit ?_
  refine lv (by kernel_rfl) (some 26) rfl (v := ?_) ?_ ?_
  rotate_left
  · go_simp; try with_reducible rfl
  try simp only [Act.put, List.setIfInBounds_toArray, List.set_cons_zero, List.set_cons_succ]
  refine ly M0 (some 27) rfl (yi_cell 0 24 (.tmp 26) rfl (by kernel_rfl) rfl _ rfl (.int .u32 r) Try.underlying24 rfl rfl) ?_
  try simp only [Act.put, List.setIfInBounds_toArray, List.set_cons_zero, List.set_cons_succ]
  refine lv (by kernel_rfl) (some 28) rfl (v := ?_) ?_ ?_
  rotate_left
  · go_simp; try with_reducible rfl
  try simp only [Act.put, List.setIfInBounds_toArray, List.set_cons_zero, List.set_cons_succ]
  refine lv (by kernel_rfl) (some 29) rfl (v := ?_) ?_ ?_
  rotate_left
  · go_simp; try with_reducible rfl
  try simp only [Act.put, List.setIfInBounds_toArray, List.set_cons_zero, List.set_cons_succ]
  refine lv (by kernel_rfl) (some 8) rfl (v := ?_) ?_ ?_
  rotate_left
  · go_simp; try with_reducible rfl
  try simp only [Act.put, List.setIfInBounds_toArray, List.set_cons_zero, List.set_cons_succ]
  refine wpList_nil ?_
  go_upto_region 5 with fail
  refine wp_region_lit ?_
  refine lv (by kernel_rfl) (some 30) rfl (v := ?_) ?_ ?_
  rotate_left
  · go_simp; try with_reducible rfl
  try simp only [Act.put, List.setIfInBounds_toArray, List.set_cons_zero, List.set_cons_succ]
  refine lv (by kernel_rfl) (some 31) rfl (v := ?_) ?_ ?_
  rotate_left
  · go_simp; try with_reducible rfl
  try simp only [Act.put, List.setIfInBounds_toArray, List.set_cons_zero, List.set_cons_succ]
  refine lv (by kernel_rfl) (some 32) rfl (v := ?_) ?_ ?_
  rotate_left
  · go_simp; try with_reducible rfl
  try simp only [Act.put, List.setIfInBounds_toArray, List.set_cons_zero, List.set_cons_succ]
  refine wpList_nil ?_
  go_upto_region 7 with fail
  refine wp_region_lit ?_
  refine lv (by kernel_rfl) (some 34) rfl (v := ?_) ?_ ?_
  rotate_left
  · go_simp; try with_reducible rfl
  try simp only [Act.put, List.setIfInBounds_toArray, List.set_cons_zero, List.set_cons_succ]
  refine lv (by kernel_rfl) (some 35) rfl (v := ?_) ?_ ?_
  rotate_left
  · go_simp; try with_reducible rfl
  try simp only [Act.put, List.setIfInBounds_toArray, List.set_cons_zero, List.set_cons_succ]
  refine lv (by kernel_rfl) (some 36) rfl (v := ?_) ?_ ?_
  rotate_left
  · go_simp; try with_reducible rfl
  try simp only [Act.put, List.setIfInBounds_toArray, List.set_cons_zero, List.set_cons_succ]
  refine lv (by kernel_rfl) (some 37) rfl (v := ?_) ?_ ?_
  rotate_left
  · go_simp; try with_reducible rfl
  try simp only [Act.put, List.setIfInBounds_toArray, List.set_cons_zero, List.set_cons_succ]
  refine wpList_nil ?_
  go_upto_region 8 with fail
  refine wp_region_lit ?_
  refine lv (by kernel_rfl) (some 38) rfl (v := ?_) ?_ ?_
  rotate_left
  · go_simp; try with_reducible rfl
  try simp only [Act.put, List.setIfInBounds_toArray, List.set_cons_zero, List.set_cons_succ]
  refine lv (by kernel_rfl) (some 39) rfl (v := ?_) ?_ ?_
  rotate_left
  · go_simp; try with_reducible rfl
  try simp only [Act.put, List.setIfInBounds_toArray, List.set_cons_zero, List.set_cons_succ]
  refine lv (by kernel_rfl) (some 8) rfl (v := ?_) ?_ ?_
  rotate_left
  · go_simp; try with_reducible rfl
  try simp only [Act.put, List.setIfInBounds_toArray, List.set_cons_zero, List.set_cons_succ]
  refine wpList_nil ?_
  go_upto_region 9 with fail
  refine wp_region_lit ?_
  refine lv (by kernel_rfl) (some 40) rfl (v := ?_) ?_ ?_
  rotate_left
  · go_simp; try with_reducible rfl
  try simp only [Act.put, List.setIfInBounds_toArray, List.set_cons_zero, List.set_cons_succ]
  refine lv (by kernel_rfl) (some 41) rfl (v := ?_) ?_ ?_
  rotate_left
  · go_simp; try with_reducible rfl
  try simp only [Act.put, List.setIfInBounds_toArray, List.set_cons_zero, List.set_cons_succ]
  refine wpList_nil ?_
  go_upto_region 11 with fail
  refine wp_region_lit ?_
  refine lv (by kernel_rfl) (some 42) rfl (v := ?_) ?_ ?_
  rotate_left
  · go_simp; try with_reducible rfl
  try simp only [Act.put, List.setIfInBounds_toArray, List.set_cons_zero, List.set_cons_succ]
  refine lv (by kernel_rfl) (some 43) rfl (v := ?_) ?_ ?_
  rotate_left
  · go_simp; try with_reducible rfl
  try simp only [Act.put, List.setIfInBounds_toArray, List.set_cons_zero, List.set_cons_succ]
  refine wpList_nil ?_
  go_upto_region 13 with fail
  refine wp_region_lit ?_
  refine lv (by kernel_rfl) (some 44) rfl (v := ?_) ?_ ?_
  rotate_left
  · go_simp; try with_reducible rfl
  try simp only [Act.put, List.setIfInBounds_toArray, List.set_cons_zero, List.set_cons_succ]
  refine lv (by kernel_rfl) (some 45) rfl (v := ?_) ?_ ?_
  rotate_left
  · go_simp; try with_reducible rfl
  try simp only [Act.put, List.setIfInBounds_toArray, List.set_cons_zero, List.set_cons_succ]
  refine lv (by kernel_rfl) (some 46) rfl (v := ?_) ?_ ?_
  rotate_left
  · go_simp; try with_reducible rfl
  try simp only [Act.put, List.setIfInBounds_toArray, List.set_cons_zero, List.set_cons_succ]
  refine ly M0 (some 47) rfl (yi_cell 0 9 (.tmp 46) rfl (by kernel_rfl) rfl _ rfl (.string d) Try.underlying9 rfl rfl) ?_
  try simp only [Act.put, List.setIfInBounds_toArray, List.set_cons_zero, List.set_cons_succ]
  refine lv (by kernel_rfl) (some 48) rfl (v := ?_) ?_ ?_
  rotate_left
  · go_simp; try with_reducible rfl
  try simp only [Act.put, List.setIfInBounds_toArray, List.set_cons_zero, List.set_cons_succ]
  refine l_store M0 1 (by kernel_rfl) 26 (.tmp 6) _ rfl rfl rfl rfl _ rfl (by kernel_rfl) (by rfl) (by kernel_rfl) _ rfl (fun s1 M1 => ?_)
  clear M0
  try simp only [List.cons_append, List.nil_append, List.set_cons_zero, List.set_cons_succ] at M1
  try simp only [Act.put, List.setIfInBounds_toArray, List.set_cons_zero, List.set_cons_succ]
  refine lv (by kernel_rfl) (some 7) rfl (v := ?_) ?_ ?_
  rotate_left
  · go_simp; try with_reducible rfl
  try simp only [Act.put, List.setIfInBounds_toArray, List.set_cons_zero, List.set_cons_succ]
  refine wpList_nil ?_
  go_wp2_with fail
  exact bodyPost_ret (v := retM (some (3, 4, (b - 20))) d) (results_cell_tmp rfl (M1.row (i := 1) rfl) _ rfl _ rfl Try.underlying26 rfl (by kernel_rfl)) rfl ⟨rfl, M1.below⟩
set_option maxRecDepth 100000 in
set_option maxHeartbeats 4000000 in
theorem rto4_m001 (k c r : Int) (d : ByteArray) (a b : Int) (w : World) (hs : Sides a b) (h2 : (k == 2) = true) (h0 : (c == 0) = true) (hwr : IntKind.i64.wrap r = r) (hw1 : IntKind.i64.wrap (r - 20) = r - 20) (hw2 : IntKind.i64.wrap (b - 20) = b - 20) (t1 : ¬ a < r - 20) (t2 : ¬ b - 20 < (r - 20)) (t3 : (r - 20) < 68) :
    Calls Try.prog 16 #[msgV k c r d, .int .i64 a, .int .i64 b] w fun e w' => e = .returned (retM (some (3, 4, 68)) d) ∧ Below w.heap.size w w' := by
  have c24 := fun w => rbounds_t a b w hs
  clear hs
  go_enter Try.func16, Try.ntmps16
  go_upto_region 1 with fail
  have M0 := Mem.two w 26 26 #[.int .i64 k, .int .i64 c, .int .u32 r, .string d] #[.int .i64 0, .int .i64 0, .int .u32 0, .string ⟨#[]⟩]
  refine wp_region_lit ?_
  refine lv (by kernel_rfl) (some 13) rfl (v := ?_) ?_ ?_
  rotate_left
  · go_simp; try with_reducible rfl
  try simp only [Act.put, List.setIfInBounds_toArray, List.set_cons_zero, List.set_cons_succ]
  refine lv (by kernel_rfl) (some 14) rfl (v := ?_) ?_ ?_
  rotate_left
  · go_simp; try with_reducible rfl
  try simp only [Act.put, List.setIfInBounds_toArray, List.set_cons_zero, List.set_cons_succ]
  refine l_same (by kernel_rfl) (some 15) rfl (c24 _) (by kernel_rfl) ?_
  try simp only [Act.put, List.setIfInBounds_toArray, List.set_cons_zero, List.set_cons_succ]
  refine lv (by kernel_rfl) (some 16) rfl (v := ?_) ?_ ?_
  rotate_left
  · go_simp; try with_reducible rfl
  try simp only [Act.put, List.setIfInBounds_toArray, List.set_cons_zero, List.set_cons_succ]
  refine wpList_nil ?_
  go_upto_region 3 with fail
  refine wp_region_lit ?_
  refine lv (by kernel_rfl) (some 18) rfl (v := ?_) ?_ ?_
  rotate_left
  · go_simp; try with_reducible rfl
  try simp only [Act.put, List.setIfInBounds_toArray, List.set_cons_zero, List.set_cons_succ]
  refine ly M0 (some 19) rfl (yi_cell 0 3 (.tmp 18) rfl (by kernel_rfl) rfl _ rfl (.int .i64 k) Try.underlying3 rfl rfl) ?_
  try simp only [Act.put, List.setIfInBounds_toArray, List.set_cons_zero, List.set_cons_succ]
  refine lv (by kernel_rfl) (some 20) rfl (v := ?_) ?_ ?_
  rotate_left
  · go_simp; try with_reducible rfl
  try simp only [Act.put, List.setIfInBounds_toArray, List.set_cons_zero, List.set_cons_succ]
  refine lv (by kernel_rfl) (some 21) rfl (v := ?_) ?_ ?_
  rotate_left
  · go_simp; try with_reducible rfl
  try simp only [Act.put, List.setIfInBounds_toArray, List.set_cons_zero, List.set_cons_succ]
  refine lv (by kernel_rfl) (some 22) rfl (v := ?_) ?_ ?_
  rotate_left
  · go_simp; try with_reducible rfl
  try simp only [Act.put, List.setIfInBounds_toArray, List.set_cons_zero, List.set_cons_succ]
  refine ly M0 (some 23) rfl (yi_cell 0 3 (.tmp 22) rfl (by kernel_rfl) rfl _ rfl (.int .i64 c) Try.underlying3 rfl rfl) ?_
  try simp only [Act.put, List.setIfInBounds_toArray, List.set_cons_zero, List.set_cons_succ]
  refine lv (by kernel_rfl) (some 24) rfl (v := ?_) ?_ ?_
  rotate_left
  · go_simp; try with_reducible rfl
  try simp only [Act.put, List.setIfInBounds_toArray, List.set_cons_zero, List.set_cons_succ]
  refine lv (by kernel_rfl) (some 25) rfl (v := ?_) ?_ ?_
  rotate_left
  · go_simp; try with_reducible rfl
  try simp only [Act.put, List.setIfInBounds_toArray, List.set_cons_zero, List.set_cons_succ]
  refine wpList_nil ?_
  go_upto_region 4 with fail
  refine wp_region_lit ?_
  refine lv (by kernel_rfl) (some 26) rfl (v := ?_) ?_ ?_
  rotate_left
  · go_simp; try with_reducible rfl
  try simp only [Act.put, List.setIfInBounds_toArray, List.set_cons_zero, List.set_cons_succ]
  refine ly M0 (some 27) rfl (yi_cell 0 24 (.tmp 26) rfl (by kernel_rfl) rfl _ rfl (.int .u32 r) Try.underlying24 rfl rfl) ?_
  try simp only [Act.put, List.setIfInBounds_toArray, List.set_cons_zero, List.set_cons_succ]
  refine lv (by kernel_rfl) (some 28) rfl (v := ?_) ?_ ?_
  rotate_left
  · go_simp; try with_reducible rfl
  try simp only [Act.put, List.setIfInBounds_toArray, List.set_cons_zero, List.set_cons_succ]
  refine lv (by kernel_rfl) (some 29) rfl (v := ?_) ?_ ?_
  rotate_left
  · go_simp; try with_reducible rfl
  try simp only [Act.put, List.setIfInBounds_toArray, List.set_cons_zero, List.set_cons_succ]
  refine lv (by kernel_rfl) (some 8) rfl (v := ?_) ?_ ?_
  rotate_left
  · go_simp; try with_reducible rfl
  try simp only [Act.put, List.setIfInBounds_toArray, List.set_cons_zero, List.set_cons_succ]
  refine wpList_nil ?_
  go_upto_region 5 with fail
  refine wp_region_lit ?_
  refine lv (by kernel_rfl) (some 30) rfl (v := ?_) ?_ ?_
  rotate_left
  · go_simp; try with_reducible rfl
  try simp only [Act.put, List.setIfInBounds_toArray, List.set_cons_zero, List.set_cons_succ]
  refine lv (by kernel_rfl) (some 31) rfl (v := ?_) ?_ ?_
  rotate_left
  · go_simp; try with_reducible rfl
  try simp only [Act.put, List.setIfInBounds_toArray, List.set_cons_zero, List.set_cons_succ]
  refine lv (by kernel_rfl) (some 32) rfl (v := ?_) ?_ ?_
  rotate_left
  · go_simp; try with_reducible rfl
  try simp only [Act.put, List.setIfInBounds_toArray, List.set_cons_zero, List.set_cons_succ]
  refine wpList_nil ?_
  go_upto_region 7 with fail
  refine wp_region_lit ?_
  refine lv (by kernel_rfl) (some 34) rfl (v := ?_) ?_ ?_
  rotate_left
  · go_simp; try with_reducible rfl
  try simp only [Act.put, List.setIfInBounds_toArray, List.set_cons_zero, List.set_cons_succ]
  refine lv (by kernel_rfl) (some 35) rfl (v := ?_) ?_ ?_
  rotate_left
  · go_simp; try with_reducible rfl
  try simp only [Act.put, List.setIfInBounds_toArray, List.set_cons_zero, List.set_cons_succ]
  refine lv (by kernel_rfl) (some 36) rfl (v := ?_) ?_ ?_
  rotate_left
  · go_simp; try with_reducible rfl
  try simp only [Act.put, List.setIfInBounds_toArray, List.set_cons_zero, List.set_cons_succ]
  refine lv (by kernel_rfl) (some 37) rfl (v := ?_) ?_ ?_
  rotate_left
  · go_simp; try with_reducible rfl
  try simp only [Act.put, List.setIfInBounds_toArray, List.set_cons_zero, List.set_cons_succ]
  refine wpList_nil ?_
  go_upto_region 9 with fail
  refine wp_region_lit ?_
  refine lv (by kernel_rfl) (some 40) rfl (v := ?_) ?_ ?_
  rotate_left
  · go_simp; try with_reducible rfl
  try simp only [Act.put, List.setIfInBounds_toArray, List.set_cons_zero, List.set_cons_succ]
  refine lv (by kernel_rfl) (some 41) rfl (v := ?_) ?_ ?_
  rotate_left
  · go_simp; try with_reducible rfl
  try simp only [Act.put, List.setIfInBounds_toArray, List.set_cons_zero, List.set_cons_succ]
  refine wpList_nil ?_
  go_upto_region 10 with fail
  refine wp_region_lit ?_
  refine lv (by kernel_rfl) (some 8) rfl (v := ?_) ?_ ?_
  rotate_left
  · go_simp; try with_reducible rfl
  try simp only [Act.put, List.setIfInBounds_toArray, List.set_cons_zero, List.set_cons_succ]
  refine wpList_nil ?_
  go_upto_region 11 with fail
  refine wp_region_lit ?_
  refine lv (by kernel_rfl) (some 42) rfl (v := ?_) ?_ ?_
  rotate_left
  · go_simp; (try simp only [IntKind.wrap_u32, Int.reduceMod]); try with_reducible rfl
  try simp only [Act.put, List.setIfInBounds_toArray, List.set_cons_zero, List.set_cons_succ]
  refine lv (by kernel_rfl) (some 43) rfl (v := ?_) ?_ ?_
  rotate_left
  · go_simp; (try simp only [IntKind.wrap_u32, Int.reduceMod]); try with_reducible rfl
  try simp only [Act.put, List.setIfInBounds_toArray, List.set_cons_zero, List.set_cons_succ]
  refine wpList_nil ?_
  go_upto_region 13 with fail
  refine wp_region_lit ?_
  refine lv (by kernel_rfl) (some 44) rfl (v := ?_) ?_ ?_
  rotate_left
  · go_simp; (try simp only [IntKind.wrap_u32, Int.reduceMod]); try with_reducible rfl
  try simp only [Act.put, List.setIfInBounds_toArray, List.set_cons_zero, List.set_cons_succ]
  refine lv (by kernel_rfl) (some 45) rfl (v := ?_) ?_ ?_
  rotate_left
  · go_simp; (try simp only [IntKind.wrap_u32, Int.reduceMod]); try with_reducible rfl
  try simp only [Act.put, List.setIfInBounds_toArray, List.set_cons_zero, List.set_cons_succ]
  refine lv (by kernel_rfl) (some 46) rfl (v := ?_) ?_ ?_
  rotate_left
  · go_simp; (try simp only [IntKind.wrap_u32, Int.reduceMod]); try with_reducible rfl
  try simp only [Act.put, List.setIfInBounds_toArray, List.set_cons_zero, List.set_cons_succ]
  refine ly M0 (some 47) rfl (yi_cell 0 9 (.tmp 46) rfl (by kernel_rfl) rfl _ rfl (.string d) Try.underlying9 rfl rfl) ?_
  try simp only [Act.put, List.setIfInBounds_toArray, List.set_cons_zero, List.set_cons_succ]
  refine lv (by kernel_rfl) (some 48) rfl (v := ?_) ?_ ?_
  rotate_left
  · go_simp; (try simp only [IntKind.wrap_u32, Int.reduceMod]); try with_reducible rfl
  try simp only [Act.put, List.setIfInBounds_toArray, List.set_cons_zero, List.set_cons_succ]
  refine l_store M0 1 (by kernel_rfl) 26 (.tmp 6) _ rfl rfl rfl rfl _ rfl (by kernel_rfl) (by rfl) (by kernel_rfl) _ rfl (fun s1 M1 => ?_)
  clear M0
  try simp only [List.cons_append, List.nil_append, List.set_cons_zero, List.set_cons_succ] at M1
  try simp only [Act.put, List.setIfInBounds_toArray, List.set_cons_zero, List.set_cons_succ]
  refine lv (by kernel_rfl) (some 7) rfl (v := ?_) ?_ ?_
  rotate_left
  · go_simp; (try simp only [IntKind.wrap_u32, Int.reduceMod]); try with_reducible rfl
  try simp only [Act.put, List.setIfInBounds_toArray, List.set_cons_zero, List.set_cons_succ]
  refine wpList_nil ?_
  go_wp2_with fail
  exact bodyPost_ret (v := retM (some (3, 4, 68)) d) (results_cell_tmp rfl (M1.row (i := 1) rfl) _ rfl _ rfl Try.underlying26 rfl (by kernel_rfl)) rfl ⟨rfl, M1.below⟩
set_option maxRecDepth 100000 in
set_option maxHeartbeats 4000000 in
theorem rto4_m000 (k c r : Int) (d : ByteArray) (a b : Int) (w : World) (hs : Sides a b) (h2 : (k == 2) = true) (h0 : (c == 0) = true) (hwr : IntKind.i64.wrap r = r) (hw1 : IntKind.i64.wrap (r - 20) = r - 20) (hw2 : IntKind.i64.wrap (b - 20) = b - 20) (t1 : ¬ a < r - 20) (t2 : ¬ b - 20 < (r - 20)) (t3 : ¬ (r - 20) < 68) (t4 : ¬ 65535 < (r - 20)) (hz : IntKind.u32.wrap (r - 20) = (r - 20)) :
    Calls Try.prog 16 #[msgV k c r d, .int .i64 a, .int .i64 b] w fun e w' => e = .returned (retM (some (3, 4, (r - 20))) d) ∧ Below w.heap.size w w' := by
  have c24 := fun w => rbounds_t a b w hs
  clear hs
  go_enter Try.func16, Try.ntmps16
  go_upto_region 1 with fail
  have M0 := Mem.two w 26 26 #[.int .i64 k, .int .i64 c, .int .u32 r, .string d] #[.int .i64 0, .int .i64 0, .int .u32 0, .string ⟨#[]⟩]
  refine wp_region_lit ?_
  refine lv (by kernel_rfl) (some 13) rfl (v := ?_) ?_ ?_
  rotate_left
  · go_simp; try with_reducible rfl
  try simp only [Act.put, List.setIfInBounds_toArray, List.set_cons_zero, List.set_cons_succ]
  refine lv (by kernel_rfl) (some 14) rfl (v := ?_) ?_ ?_
  rotate_left
  · go_simp; try with_reducible rfl
  try simp only [Act.put, List.setIfInBounds_toArray, List.set_cons_zero, List.set_cons_succ]
  refine l_same (by kernel_rfl) (some 15) rfl (c24 _) (by kernel_rfl) ?_
  try simp only [Act.put, List.setIfInBounds_toArray, List.set_cons_zero, List.set_cons_succ]
  refine lv (by kernel_rfl) (some 16) rfl (v := ?_) ?_ ?_
  rotate_left
  · go_simp; try with_reducible rfl
  try simp only [Act.put, List.setIfInBounds_toArray, List.set_cons_zero, List.set_cons_succ]
  refine wpList_nil ?_
  go_upto_region 3 with fail
  refine wp_region_lit ?_
  refine lv (by kernel_rfl) (some 18) rfl (v := ?_) ?_ ?_
  rotate_left
  · go_simp; try with_reducible rfl
  try simp only [Act.put, List.setIfInBounds_toArray, List.set_cons_zero, List.set_cons_succ]
  refine ly M0 (some 19) rfl (yi_cell 0 3 (.tmp 18) rfl (by kernel_rfl) rfl _ rfl (.int .i64 k) Try.underlying3 rfl rfl) ?_
  try simp only [Act.put, List.setIfInBounds_toArray, List.set_cons_zero, List.set_cons_succ]
  refine lv (by kernel_rfl) (some 20) rfl (v := ?_) ?_ ?_
  rotate_left
  · go_simp; try with_reducible rfl
  try simp only [Act.put, List.setIfInBounds_toArray, List.set_cons_zero, List.set_cons_succ]
  refine lv (by kernel_rfl) (some 21) rfl (v := ?_) ?_ ?_
  rotate_left
  · go_simp; try with_reducible rfl
  try simp only [Act.put, List.setIfInBounds_toArray, List.set_cons_zero, List.set_cons_succ]
  refine lv (by kernel_rfl) (some 22) rfl (v := ?_) ?_ ?_
  rotate_left
  · go_simp; try with_reducible rfl
  try simp only [Act.put, List.setIfInBounds_toArray, List.set_cons_zero, List.set_cons_succ]
  refine ly M0 (some 23) rfl (yi_cell 0 3 (.tmp 22) rfl (by kernel_rfl) rfl _ rfl (.int .i64 c) Try.underlying3 rfl rfl) ?_
  try simp only [Act.put, List.setIfInBounds_toArray, List.set_cons_zero, List.set_cons_succ]
  refine lv (by kernel_rfl) (some 24) rfl (v := ?_) ?_ ?_
  rotate_left
  · go_simp; try with_reducible rfl
  try simp only [Act.put, List.setIfInBounds_toArray, List.set_cons_zero, List.set_cons_succ]
  refine lv (by kernel_rfl) (some 25) rfl (v := ?_) ?_ ?_
  rotate_left
  · go_simp; try with_reducible rfl
  try simp only [Act.put, List.setIfInBounds_toArray, List.set_cons_zero, List.set_cons_succ]
  refine wpList_nil ?_
  go_upto_region 4 with fail
  refine wp_region_lit ?_
  refine lv (by kernel_rfl) (some 26) rfl (v := ?_) ?_ ?_
  rotate_left
  · go_simp; try with_reducible rfl
  try simp only [Act.put, List.setIfInBounds_toArray, List.set_cons_zero, List.set_cons_succ]
  refine ly M0 (some 27) rfl (yi_cell 0 24 (.tmp 26) rfl (by kernel_rfl) rfl _ rfl (.int .u32 r) Try.underlying24 rfl rfl) ?_
  try simp only [Act.put, List.setIfInBounds_toArray, List.set_cons_zero, List.set_cons_succ]
  refine lv (by kernel_rfl) (some 28) rfl (v := ?_) ?_ ?_
  rotate_left
  · go_simp; try with_reducible rfl
  try simp only [Act.put, List.setIfInBounds_toArray, List.set_cons_zero, List.set_cons_succ]
  refine lv (by kernel_rfl) (some 29) rfl (v := ?_) ?_ ?_
  rotate_left
  · go_simp; try with_reducible rfl
  try simp only [Act.put, List.setIfInBounds_toArray, List.set_cons_zero, List.set_cons_succ]
  refine lv (by kernel_rfl) (some 8) rfl (v := ?_) ?_ ?_
  rotate_left
  · go_simp; try with_reducible rfl
  try simp only [Act.put, List.setIfInBounds_toArray, List.set_cons_zero, List.set_cons_succ]
  refine wpList_nil ?_
  go_upto_region 5 with fail
  refine wp_region_lit ?_
  refine lv (by kernel_rfl) (some 30) rfl (v := ?_) ?_ ?_
  rotate_left
  · go_simp; try with_reducible rfl
  try simp only [Act.put, List.setIfInBounds_toArray, List.set_cons_zero, List.set_cons_succ]
  refine lv (by kernel_rfl) (some 31) rfl (v := ?_) ?_ ?_
  rotate_left
  · go_simp; try with_reducible rfl
  try simp only [Act.put, List.setIfInBounds_toArray, List.set_cons_zero, List.set_cons_succ]
  refine lv (by kernel_rfl) (some 32) rfl (v := ?_) ?_ ?_
  rotate_left
  · go_simp; try with_reducible rfl
  try simp only [Act.put, List.setIfInBounds_toArray, List.set_cons_zero, List.set_cons_succ]
  refine wpList_nil ?_
  go_upto_region 7 with fail
  refine wp_region_lit ?_
  refine lv (by kernel_rfl) (some 34) rfl (v := ?_) ?_ ?_
  rotate_left
  · go_simp; try with_reducible rfl
  try simp only [Act.put, List.setIfInBounds_toArray, List.set_cons_zero, List.set_cons_succ]
  refine lv (by kernel_rfl) (some 35) rfl (v := ?_) ?_ ?_
  rotate_left
  · go_simp; try with_reducible rfl
  try simp only [Act.put, List.setIfInBounds_toArray, List.set_cons_zero, List.set_cons_succ]
  refine lv (by kernel_rfl) (some 36) rfl (v := ?_) ?_ ?_
  rotate_left
  · go_simp; try with_reducible rfl
  try simp only [Act.put, List.setIfInBounds_toArray, List.set_cons_zero, List.set_cons_succ]
  refine lv (by kernel_rfl) (some 37) rfl (v := ?_) ?_ ?_
  rotate_left
  · go_simp; try with_reducible rfl
  try simp only [Act.put, List.setIfInBounds_toArray, List.set_cons_zero, List.set_cons_succ]
  refine wpList_nil ?_
  go_upto_region 9 with fail
  refine wp_region_lit ?_
  refine lv (by kernel_rfl) (some 40) rfl (v := ?_) ?_ ?_
  rotate_left
  · go_simp; try with_reducible rfl
  try simp only [Act.put, List.setIfInBounds_toArray, List.set_cons_zero, List.set_cons_succ]
  refine lv (by kernel_rfl) (some 41) rfl (v := ?_) ?_ ?_
  rotate_left
  · go_simp; try with_reducible rfl
  try simp only [Act.put, List.setIfInBounds_toArray, List.set_cons_zero, List.set_cons_succ]
  refine wpList_nil ?_
  go_upto_region 11 with fail
  refine wp_region_lit ?_
  refine lv (by kernel_rfl) (some 42) rfl (v := ?_) ?_ ?_
  rotate_left
  · go_simp; try with_reducible rfl
  try simp only [Act.put, List.setIfInBounds_toArray, List.set_cons_zero, List.set_cons_succ]
  refine lv (by kernel_rfl) (some 43) rfl (v := ?_) ?_ ?_
  rotate_left
  · go_simp; try with_reducible rfl
  try simp only [Act.put, List.setIfInBounds_toArray, List.set_cons_zero, List.set_cons_succ]
  refine wpList_nil ?_
  go_upto_region 13 with fail
  refine wp_region_lit ?_
  refine lv (by kernel_rfl) (some 44) rfl (v := ?_) ?_ ?_
  rotate_left
  · go_simp; try with_reducible rfl
  try simp only [Act.put, List.setIfInBounds_toArray, List.set_cons_zero, List.set_cons_succ]
  refine lv (by kernel_rfl) (some 45) rfl (v := ?_) ?_ ?_
  rotate_left
  · go_simp; try with_reducible rfl
  try simp only [Act.put, List.setIfInBounds_toArray, List.set_cons_zero, List.set_cons_succ]
  refine lv (by kernel_rfl) (some 46) rfl (v := ?_) ?_ ?_
  rotate_left
  · go_simp; try with_reducible rfl
  try simp only [Act.put, List.setIfInBounds_toArray, List.set_cons_zero, List.set_cons_succ]
  refine ly M0 (some 47) rfl (yi_cell 0 9 (.tmp 46) rfl (by kernel_rfl) rfl _ rfl (.string d) Try.underlying9 rfl rfl) ?_
  try simp only [Act.put, List.setIfInBounds_toArray, List.set_cons_zero, List.set_cons_succ]
  refine lv (by kernel_rfl) (some 48) rfl (v := ?_) ?_ ?_
  rotate_left
  · go_simp; try with_reducible rfl
  try simp only [Act.put, List.setIfInBounds_toArray, List.set_cons_zero, List.set_cons_succ]
  refine l_store M0 1 (by kernel_rfl) 26 (.tmp 6) _ rfl rfl rfl rfl _ rfl (by kernel_rfl) (by rfl) (by kernel_rfl) _ rfl (fun s1 M1 => ?_)
  clear M0
  try simp only [List.cons_append, List.nil_append, List.set_cons_zero, List.set_cons_succ] at M1
  try simp only [Act.put, List.setIfInBounds_toArray, List.set_cons_zero, List.set_cons_succ]
  refine lv (by kernel_rfl) (some 7) rfl (v := ?_) ?_ ?_
  rotate_left
  · go_simp; try with_reducible rfl
  try simp only [Act.put, List.setIfInBounds_toArray, List.set_cons_zero, List.set_cons_succ]
  refine wpList_nil ?_
  go_wp2_with fail
  exact bodyPost_ret (v := retM (some (3, 4, (r - 20))) d) (results_cell_tmp rfl (M1.row (i := 1) rfl) _ rfl _ rfl Try.underlying26 rfl (by kernel_rfl)) rfl ⟨rfl, M1.below⟩
end Go.Proofs.Ytcppckpkiloilaa
