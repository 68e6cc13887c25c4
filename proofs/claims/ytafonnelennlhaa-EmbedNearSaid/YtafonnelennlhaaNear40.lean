/-
  The walk of the law EmbedNear, at the length 40. Conditions stand in each statement.
-/
import Derived.Test.YtafonnelennlhaaNearD
namespace Go.Proofs.Ytafonnelennlhaa
open Go.RowKit
set_option linter.unusedSimpArgs false
set_option linter.unusedVariables false

set_option maxRecDepth 100000 in
set_option maxHeartbeats 8000000 in
theorem near_40 (P X : Nat → Int) (n0 l t b : Int) (q : Nat) (w : World) (bp : Bytes 16 P) (bx : Bytes 16 X) (hl : l.tmod 6 = 1) (ht : t.tmod 16 = (q : Int)) (hq : q < 16) :
    Calls Try.prog 5 #[net P n0, .agg (a16 X), .int .u8 l, .int .u8 t, .int .u8 b] w fun e w' => e = .returned (.bool true) ∧ Below w.heap.size w w' := by
  have hR := clr_right P (n := 40) (m := 5) (by unfold LenOk; omega) rfl
  obtain ⟨Y, hY⟩ : ∃ Y, mix P X 5 16 = Y := ⟨_, rfl⟩
  have bY : Bytes 16 Y := by rw [← hY]; exact mix_bytes bp bx 5 16
  obtain ⟨v, hv⟩ : ∃ v, bits .xor .u8 (Y q) b = v := ⟨_, rfl⟩
  have bv := bounds_u8 (hv ▸ wf_bits .xor .u8 (Y q) b)
  have bZ := updn_bytes bY (i := q) bv.1 (by omega : v < 256)
  have c15 := fun w => right_t (clr P 5 16) 40 w hR
  have c4 := fun w => does_lit 40 (clr_bytes bp 5 16) bZ w
  have i0 : (0 : Int) ≤ (q : Int) := by omega
  have i1 : (q : Int) < 16 := by omega
  have hs := Lib.hid fun v => set16 Y q v hq
  have hg := Lib.hid (get16 Y q hq)
  have hd : decide (q < 16) = true := by simp [hq]
  have HY := Lib.hid hY
  clear hY bp bx bY bv bZ hR hq
  go_enter Try.func5, Try.ntmps5
  go_upto_region 1 with fail
  refine hide_w (Mem.two w 26 23 #[.int .u8 (P 0), .int .u8 (P 1), .int .u8 (P 2), .int .u8 (P 3), .int .u8 (P 4), .int .u8 (P 5), .int .u8 (P 6), .int .u8 (P 7), .int .u8 (P 8), .int .u8 (P 9), .int .u8 (P 10), .int .u8 (P 11), .int .u8 (P 12), .int .u8 (P 13), .int .u8 (P 14), .int .u8 (P 15), .int .i64 n0] (a16 X)) (fun w0 M0 => ?_)
  refine wp_region_lit ?_
  refine l_call rfl (some 12) rfl (awake_any _) (by kernel_rfl) (fun s1 hb1 => ?_)
  have M1 := M0.call hb1
  clear hb1 M0
  try simp only [Act.put, List.setIfInBounds_toArray, List.set_cons_zero, List.set_cons_succ]
  refine lv (by kernel_rfl) (some 13) rfl (v := ?_) ?_ ?_
  rotate_left
  · go_simp; (try simp only [IntKind.wrap_i64, Int.reduceAdd, Int.reduceSub, Int.reduceMod, Int.reducePow, Int.reduceNeg]); try with_reducible rfl
  try simp only [Act.put, List.setIfInBounds_toArray, List.set_cons_zero, List.set_cons_succ]
  refine wpList_nil ?_
  go_upto_region 3 with fail
  refine wp_region_lit ?_
  refine l_slice (by kernel_rfl) (some 14) rfl #[.int .i64 32, .int .i64 40, .int .i64 48, .int .i64 56, .int .i64 64, .int .i64 96] 3 6 6 (by kernel_rfl) ?_
  have MT := M1.new rfl 3 #[.int .i64 32, .int .i64 40, .int .i64 48, .int .i64 56, .int .i64 64, .int .i64 96]
  clear M1
  try simp only [List.cons_append, List.nil_append, List.set_cons_zero, List.set_cons_succ] at MT
  try simp only [Act.put, List.setIfInBounds_toArray, List.set_cons_zero, List.set_cons_succ]
  refine lv (by kernel_rfl) (some 15) rfl (v := ?_) ?_ ?_
  rotate_left
  · go_simp; (try simp only [IntKind.wrap_i64, Int.reduceAdd, Int.reduceSub, Int.reduceMod, Int.reducePow, Int.reduceNeg]); try with_reducible rfl
  try simp only [Act.put, List.setIfInBounds_toArray, List.set_cons_zero, List.set_cons_succ]
  refine lv (by kernel_rfl) (some 16) rfl (v := ?_) ?_ ?_
  rotate_left
  · go_simp; (try simp only [IntKind.wrap_i64, Int.reduceAdd, Int.reduceSub, Int.reduceMod, Int.reducePow, Int.reduceNeg]); try with_reducible rfl
  try simp only [Act.put, List.setIfInBounds_toArray, List.set_cons_zero, List.set_cons_succ]
  refine lv (by kernel_rfl) (some 17) rfl (v := ?_) ?_ ?_
  rotate_left
  · go_simp; (try simp only [IntKind.wrap_i64, Int.reduceAdd, Int.reduceSub, Int.reduceMod, Int.reducePow, Int.reduceNeg]); try with_reducible rfl
  try simp only [Act.put, List.setIfInBounds_toArray, List.set_cons_zero, List.set_cons_succ]
  refine ly MT (some 18) rfl (yi_cell 2 3 (.tmp 17) rfl rfl rfl 1 rfl (.int .i64 40) Try.underlying3 rfl) ?_
  try simp only [Act.put, List.setIfInBounds_toArray, List.set_cons_zero, List.set_cons_succ]
  refine lv (by kernel_rfl) (some 19) rfl (v := ?_) ?_ ?_
  rotate_left
  · go_simp; (try simp only [IntKind.wrap_i64, Int.reduceAdd, Int.reduceSub, Int.reduceMod, Int.reducePow, Int.reduceNeg]); try with_reducible rfl
  try simp only [Act.put, List.setIfInBounds_toArray, List.set_cons_zero, List.set_cons_succ]
  refine l_cell MT 0 (by kernel_rfl) 3 (.tmp 19) _ rfl rfl rfl 16 rfl _ rfl (by kernel_rfl) (by kernel_rfl) rfl rfl (netC P 40) (by kernel_rfl) _ rfl (fun s2 M2 => ?_)
  clear MT
  try simp only [List.cons_append, List.nil_append, List.set_cons_zero, List.set_cons_succ] at M2
  try simp only [Act.put, List.setIfInBounds_toArray, List.set_cons_zero, List.set_cons_succ]
  refine wpList_nil ?_
  go_upto_region 4 with fail
  refine wp_region_lit ?_
  refine lv (by kernel_rfl) (some 11) rfl (v := ?_) ?_ ?_
  rotate_left
  · go_simp; (try simp only [IntKind.wrap_i64, Int.reduceAdd, Int.reduceSub, Int.reduceMod, Int.reducePow, Int.reduceNeg]); try with_reducible rfl
  try simp only [Act.put, List.setIfInBounds_toArray, List.set_cons_zero, List.set_cons_succ]
  refine wpList_nil ?_
  go_wp2_with fail
  refine wp_loop_rounds 17 ?_
  rw [rounds_succ]
  go_upto_region 5 with fail
  refine wp_region_lit ?_
  refine lv (by kernel_rfl) (some 20) rfl (v := ?_) ?_ ?_
  rotate_left
  · go_simp; (try simp only [IntKind.wrap_i64, Int.reduceAdd, Int.reduceSub, Int.reduceMod, Int.reducePow, Int.reduceNeg]); try with_reducible rfl
  try simp only [Act.put, List.setIfInBounds_toArray, List.set_cons_zero, List.set_cons_succ]
  refine lv (by kernel_rfl) (some 21) rfl (v := ?_) ?_ ?_
  rotate_left
  · go_simp; (try simp only [IntKind.wrap_i64, Int.reduceAdd, Int.reduceSub, Int.reduceMod, Int.reducePow, Int.reduceNeg]); try with_reducible rfl
  try simp only [Act.put, List.setIfInBounds_toArray, List.set_cons_zero, List.set_cons_succ]
  refine wpList_nil ?_
  go_upto_region 7 with fail
  refine wp_region_lit ?_
  refine lv (by kernel_rfl) (some 24) rfl (v := ?_) ?_ ?_
  rotate_left
  · go_simp; (try simp only [IntKind.wrap_i64, Int.reduceAdd, Int.reduceSub, Int.reduceMod, Int.reducePow, Int.reduceNeg]); try with_reducible rfl
  try simp only [Act.put, List.setIfInBounds_toArray, List.set_cons_zero, List.set_cons_succ]
  refine lv (by kernel_rfl) (some 25) rfl (v := ?_) ?_ ?_
  rotate_left
  · go_simp; (try simp only [IntKind.wrap_i64, Int.reduceAdd, Int.reduceSub, Int.reduceMod, Int.reducePow, Int.reduceNeg]); try with_reducible rfl
  try simp only [Act.put, List.setIfInBounds_toArray, List.set_cons_zero, List.set_cons_succ]
  refine ly M2 (some 26) rfl (yi_cell 0 3 (.tmp 25) rfl rfl rfl _ rfl _ Try.underlying3 rfl) ?_
  try simp only [Act.put, List.setIfInBounds_toArray, List.set_cons_zero, List.set_cons_succ]
  refine lv (by kernel_rfl) (some 27) rfl (v := ?_) ?_ ?_
  rotate_left
  · go_simp; (try simp only [IntKind.wrap_i64, Int.reduceAdd, Int.reduceSub, Int.reduceMod, Int.reducePow, Int.reduceNeg]); try with_reducible rfl
  try simp only [Act.put, List.setIfInBounds_toArray, List.set_cons_zero, List.set_cons_succ]
  refine lv (by kernel_rfl) (some 28) rfl (v := ?_) ?_ ?_
  rotate_left
  · go_simp; (try simp only [IntKind.wrap_i64, Int.reduceAdd, Int.reduceSub, Int.reduceMod, Int.reducePow, Int.reduceNeg]); try with_reducible rfl
  try simp only [Act.put, List.setIfInBounds_toArray, List.set_cons_zero, List.set_cons_succ]
  refine lv (by kernel_rfl) (some 29) rfl (v := ?_) ?_ ?_
  rotate_left
  · go_simp; (try simp only [IntKind.wrap_i64, Int.reduceAdd, Int.reduceSub, Int.reduceMod, Int.reducePow, Int.reduceNeg]); try with_reducible rfl
  try simp only [Act.put, List.setIfInBounds_toArray, List.set_cons_zero, List.set_cons_succ]
  refine lv (by kernel_rfl) (some 30) rfl (v := ?_) ?_ ?_
  rotate_left
  · go_simp; (try simp only [IntKind.wrap_i64, Int.reduceAdd, Int.reduceSub, Int.reduceMod, Int.reducePow, Int.reduceNeg]); try with_reducible rfl
  try simp only [Act.put, List.setIfInBounds_toArray, List.set_cons_zero, List.set_cons_succ]
  refine lv (by kernel_rfl) (some 31) rfl (v := ?_) ?_ ?_
  rotate_left
  · go_simp; (try simp only [IntKind.wrap_i64, Int.reduceAdd, Int.reduceSub, Int.reduceMod, Int.reducePow, Int.reduceNeg]); try with_reducible rfl
  try simp only [Act.put, List.setIfInBounds_toArray, List.set_cons_zero, List.set_cons_succ]
  refine lv (by kernel_rfl) (some 32) rfl (v := ?_) ?_ ?_
  rotate_left
  · go_simp; (try simp only [IntKind.wrap_i64, Int.reduceAdd, Int.reduceSub, Int.reduceMod, Int.reducePow, Int.reduceNeg]); try with_reducible rfl
  try simp only [Act.put, List.setIfInBounds_toArray, List.set_cons_zero, List.set_cons_succ]
  refine wpList_nil ?_
  go_upto_region 9 with fail
  refine wp_region_lit ?_
  refine lv (by kernel_rfl) (some 36) rfl (v := ?_) ?_ ?_
  rotate_left
  · go_simp; (try simp only [IntKind.wrap_i64, Int.reduceAdd, Int.reduceSub, Int.reduceMod, Int.reducePow, Int.reduceNeg]); try with_reducible rfl
  try simp only [Act.put, List.setIfInBounds_toArray, List.set_cons_zero, List.set_cons_succ]
  refine lv (by kernel_rfl) (some 37) rfl (v := ?_) ?_ ?_
  rotate_left
  · go_simp; (try simp only [IntKind.wrap_i64, Int.reduceAdd, Int.reduceSub, Int.reduceMod, Int.reducePow, Int.reduceNeg]); try with_reducible rfl
  try simp only [Act.put, List.setIfInBounds_toArray, List.set_cons_zero, List.set_cons_succ]
  refine ly M2 (some 38) rfl (yi_cell 0 3 (.tmp 37) rfl rfl rfl _ rfl _ Try.underlying3 rfl) ?_
  try simp only [Act.put, List.setIfInBounds_toArray, List.set_cons_zero, List.set_cons_succ]
  refine lv (by kernel_rfl) (some 39) rfl (v := ?_) ?_ ?_
  rotate_left
  · go_simp; (try simp only [IntKind.wrap_i64, Int.reduceAdd, Int.reduceSub, Int.reduceMod, Int.reducePow, Int.reduceNeg]); try with_reducible rfl
  try simp only [Act.put, List.setIfInBounds_toArray, List.set_cons_zero, List.set_cons_succ]
  refine lv (by kernel_rfl) (some 40) rfl (v := ?_) ?_ ?_
  rotate_left
  · go_simp; (try simp only [IntKind.wrap_i64, Int.reduceAdd, Int.reduceSub, Int.reduceMod, Int.reducePow, Int.reduceNeg]); try with_reducible rfl
  try simp only [Act.put, List.setIfInBounds_toArray, List.set_cons_zero, List.set_cons_succ]
  refine lv (by kernel_rfl) (some 41) rfl (v := ?_) ?_ ?_
  rotate_left
  · go_simp; (try simp only [IntKind.wrap_i64, Int.reduceAdd, Int.reduceSub, Int.reduceMod, Int.reducePow, Int.reduceNeg]); try with_reducible rfl
  try simp only [Act.put, List.setIfInBounds_toArray, List.set_cons_zero, List.set_cons_succ]
  with_reducible refine lu (by kernel_rfl) (some 42) rfl ?_
  try simp only [Act.put, List.setIfInBounds_toArray, List.set_cons_zero, List.set_cons_succ]
  with_reducible refine lu (by kernel_rfl) (some 43) rfl ?_
  try simp only [Act.put, List.setIfInBounds_toArray, List.set_cons_zero, List.set_cons_succ]
  refine lv (by kernel_rfl) (some 44) rfl (v := ?_) ?_ ?_
  rotate_left
  · go_simp; (try simp only [IntKind.wrap_i64, Int.reduceAdd, Int.reduceSub, Int.reduceMod, Int.reducePow, Int.reduceNeg]); try with_reducible rfl
  try simp only [Act.put, List.setIfInBounds_toArray, List.set_cons_zero, List.set_cons_succ]
  refine wpList_nil ?_
  go_upto_region 10 with fail
  refine wp_region_lit ?_
  refine lv (by kernel_rfl) (some 45) rfl (v := ?_) ?_ ?_
  rotate_left
  · go_simp; (try simp only [IntKind.wrap_i64, Int.reduceAdd, Int.reduceSub, Int.reduceMod, Int.reducePow, Int.reduceNeg]); try with_reducible rfl
  try simp only [Act.put, List.setIfInBounds_toArray, List.set_cons_zero, List.set_cons_succ]
  refine lv (by kernel_rfl) (some 46) rfl (v := ?_) ?_ ?_
  rotate_left
  · go_simp; (try simp only [IntKind.wrap_i64, Int.reduceAdd, Int.reduceSub, Int.reduceMod, Int.reducePow, Int.reduceNeg]); try with_reducible rfl
  try simp only [Act.put, List.setIfInBounds_toArray, List.set_cons_zero, List.set_cons_succ]
  refine lv (by kernel_rfl) (some 47) rfl (v := ?_) ?_ ?_
  rotate_left
  · go_simp; (try simp only [IntKind.wrap_i64, Int.reduceAdd, Int.reduceSub, Int.reduceMod, Int.reducePow, Int.reduceNeg]); try with_reducible rfl
  try simp only [Act.put, List.setIfInBounds_toArray, List.set_cons_zero, List.set_cons_succ]
  refine lv (by kernel_rfl) (some 48) rfl (v := ?_) ?_ ?_
  rotate_left
  · go_simp; (try simp only [IntKind.wrap_i64, Int.reduceAdd, Int.reduceSub, Int.reduceMod, Int.reducePow, Int.reduceNeg]); try with_reducible rfl
  try simp only [Act.put, List.setIfInBounds_toArray, List.set_cons_zero, List.set_cons_succ]
  refine ly M2 (some 49) rfl (yi_cell 0 5 (.tmp 48) rfl rfl rfl _ rfl _ Try.underlying5 rfl) ?_
  try simp only [Act.put, List.setIfInBounds_toArray, List.set_cons_zero, List.set_cons_succ]
  refine lv (by kernel_rfl) (some 50) rfl (v := ?_) ?_ ?_
  rotate_left
  · go_simp; (try simp only [IntKind.wrap_i64, Int.reduceAdd, Int.reduceSub, Int.reduceMod, Int.reducePow, Int.reduceNeg]); try with_reducible rfl
  try simp only [Act.put, List.setIfInBounds_toArray, List.set_cons_zero, List.set_cons_succ]
  refine l_cell M2 1 rfl 5 (.tmp 50) _ rfl rfl rfl _ rfl _ rfl (by kernel_rfl) (by kernel_rfl) rfl rfl (a16 (mix P X 5 1)) (by kernel_rfl) _ rfl (fun s3 M3 => ?_)
  clear M2
  try simp only [List.cons_append, List.nil_append, List.set_cons_zero, List.set_cons_succ] at M3
  try simp only [Act.put, List.setIfInBounds_toArray, List.set_cons_zero, List.set_cons_succ]
  refine wpList_nil ?_
  go_upto_region 6 with fail
  refine wp_region_lit ?_
  refine lv (by kernel_rfl) (some 22) rfl (v := ?_) ?_ ?_
  rotate_left
  · go_simp; (try simp only [IntKind.wrap_i64, Int.reduceAdd, Int.reduceSub, Int.reduceMod, Int.reducePow, Int.reduceNeg]); try with_reducible rfl
  try simp only [Act.put, List.setIfInBounds_toArray, List.set_cons_zero, List.set_cons_succ]
  refine lv (by kernel_rfl) (some 23) rfl (v := ?_) ?_ ?_
  rotate_left
  · go_simp; (try simp only [IntKind.wrap_i64, Int.reduceAdd, Int.reduceSub, Int.reduceMod, Int.reducePow, Int.reduceNeg]); try with_reducible rfl
  try simp only [Act.put, List.setIfInBounds_toArray, List.set_cons_zero, List.set_cons_succ]
  refine lv (by kernel_rfl) (some 11) rfl (v := ?_) ?_ ?_
  rotate_left
  · go_simp; (try simp only [IntKind.wrap_i64, Int.reduceAdd, Int.reduceSub, Int.reduceMod, Int.reducePow, Int.reduceNeg]); try with_reducible rfl
  try simp only [Act.put, List.setIfInBounds_toArray, List.set_cons_zero, List.set_cons_succ]
  refine wpList_nil ?_
  go_wp2_with fail
  have MN0 : Mem w _ [(w.heap.size, 26, (netC (clr P 5 1) 40)), (w.heap.size + 1, 23, (a16 (mix P X 5 1))), _] := M3
  clear M3
  rw [rounds_succ]
  go_upto_region 5 with fail
  refine wp_region_lit ?_
  refine lv (by kernel_rfl) (some 20) rfl (v := ?_) ?_ ?_
  rotate_left
  · go_simp; (try simp only [IntKind.wrap_i64, Int.reduceAdd, Int.reduceSub, Int.reduceMod, Int.reducePow, Int.reduceNeg]); try with_reducible rfl
  try simp only [Act.put, List.setIfInBounds_toArray, List.set_cons_zero, List.set_cons_succ]
  refine lv (by kernel_rfl) (some 21) rfl (v := ?_) ?_ ?_
  rotate_left
  · go_simp; (try simp only [IntKind.wrap_i64, Int.reduceAdd, Int.reduceSub, Int.reduceMod, Int.reducePow, Int.reduceNeg]); try with_reducible rfl
  try simp only [Act.put, List.setIfInBounds_toArray, List.set_cons_zero, List.set_cons_succ]
  refine wpList_nil ?_
  go_upto_region 7 with fail
  refine wp_region_lit ?_
  refine lv (by kernel_rfl) (some 24) rfl (v := ?_) ?_ ?_
  rotate_left
  · go_simp; (try simp only [IntKind.wrap_i64, Int.reduceAdd, Int.reduceSub, Int.reduceMod, Int.reducePow, Int.reduceNeg]); try with_reducible rfl
  try simp only [Act.put, List.setIfInBounds_toArray, List.set_cons_zero, List.set_cons_succ]
  refine lv (by kernel_rfl) (some 25) rfl (v := ?_) ?_ ?_
  rotate_left
  · go_simp; (try simp only [IntKind.wrap_i64, Int.reduceAdd, Int.reduceSub, Int.reduceMod, Int.reducePow, Int.reduceNeg]); try with_reducible rfl
  try simp only [Act.put, List.setIfInBounds_toArray, List.set_cons_zero, List.set_cons_succ]
  refine ly MN0 (some 26) rfl (yi_cell 0 3 (.tmp 25) rfl rfl rfl _ rfl _ Try.underlying3 rfl) ?_
  try simp only [Act.put, List.setIfInBounds_toArray, List.set_cons_zero, List.set_cons_succ]
  refine lv (by kernel_rfl) (some 27) rfl (v := ?_) ?_ ?_
  rotate_left
  · go_simp; (try simp only [IntKind.wrap_i64, Int.reduceAdd, Int.reduceSub, Int.reduceMod, Int.reducePow, Int.reduceNeg]); try with_reducible rfl
  try simp only [Act.put, List.setIfInBounds_toArray, List.set_cons_zero, List.set_cons_succ]
  refine lv (by kernel_rfl) (some 28) rfl (v := ?_) ?_ ?_
  rotate_left
  · go_simp; (try simp only [IntKind.wrap_i64, Int.reduceAdd, Int.reduceSub, Int.reduceMod, Int.reducePow, Int.reduceNeg]); try with_reducible rfl
  try simp only [Act.put, List.setIfInBounds_toArray, List.set_cons_zero, List.set_cons_succ]
  refine lv (by kernel_rfl) (some 29) rfl (v := ?_) ?_ ?_
  rotate_left
  · go_simp; (try simp only [IntKind.wrap_i64, Int.reduceAdd, Int.reduceSub, Int.reduceMod, Int.reducePow, Int.reduceNeg]); try with_reducible rfl
  try simp only [Act.put, List.setIfInBounds_toArray, List.set_cons_zero, List.set_cons_succ]
  refine lv (by kernel_rfl) (some 30) rfl (v := ?_) ?_ ?_
  rotate_left
  · go_simp; (try simp only [IntKind.wrap_i64, Int.reduceAdd, Int.reduceSub, Int.reduceMod, Int.reducePow, Int.reduceNeg]); try with_reducible rfl
  try simp only [Act.put, List.setIfInBounds_toArray, List.set_cons_zero, List.set_cons_succ]
  refine lv (by kernel_rfl) (some 31) rfl (v := ?_) ?_ ?_
  rotate_left
  · go_simp; (try simp only [IntKind.wrap_i64, Int.reduceAdd, Int.reduceSub, Int.reduceMod, Int.reducePow, Int.reduceNeg]); try with_reducible rfl
  try simp only [Act.put, List.setIfInBounds_toArray, List.set_cons_zero, List.set_cons_succ]
  refine lv (by kernel_rfl) (some 32) rfl (v := ?_) ?_ ?_
  rotate_left
  · go_simp; (try simp only [IntKind.wrap_i64, Int.reduceAdd, Int.reduceSub, Int.reduceMod, Int.reducePow, Int.reduceNeg]); try with_reducible rfl
  try simp only [Act.put, List.setIfInBounds_toArray, List.set_cons_zero, List.set_cons_succ]
  refine wpList_nil ?_
  go_upto_region 9 with fail
  refine wp_region_lit ?_
  refine lv (by kernel_rfl) (some 36) rfl (v := ?_) ?_ ?_
  rotate_left
  · go_simp; (try simp only [IntKind.wrap_i64, Int.reduceAdd, Int.reduceSub, Int.reduceMod, Int.reducePow, Int.reduceNeg]); try with_reducible rfl
  try simp only [Act.put, List.setIfInBounds_toArray, List.set_cons_zero, List.set_cons_succ]
  refine lv (by kernel_rfl) (some 37) rfl (v := ?_) ?_ ?_
  rotate_left
  · go_simp; (try simp only [IntKind.wrap_i64, Int.reduceAdd, Int.reduceSub, Int.reduceMod, Int.reducePow, Int.reduceNeg]); try with_reducible rfl
  try simp only [Act.put, List.setIfInBounds_toArray, List.set_cons_zero, List.set_cons_succ]
  refine ly MN0 (some 38) rfl (yi_cell 0 3 (.tmp 37) rfl rfl rfl _ rfl _ Try.underlying3 rfl) ?_
  try simp only [Act.put, List.setIfInBounds_toArray, List.set_cons_zero, List.set_cons_succ]
  refine lv (by kernel_rfl) (some 39) rfl (v := ?_) ?_ ?_
  rotate_left
  · go_simp; (try simp only [IntKind.wrap_i64, Int.reduceAdd, Int.reduceSub, Int.reduceMod, Int.reducePow, Int.reduceNeg]); try with_reducible rfl
  try simp only [Act.put, List.setIfInBounds_toArray, List.set_cons_zero, List.set_cons_succ]
  refine lv (by kernel_rfl) (some 40) rfl (v := ?_) ?_ ?_
  rotate_left
  · go_simp; (try simp only [IntKind.wrap_i64, Int.reduceAdd, Int.reduceSub, Int.reduceMod, Int.reducePow, Int.reduceNeg]); try with_reducible rfl
  try simp only [Act.put, List.setIfInBounds_toArray, List.set_cons_zero, List.set_cons_succ]
  refine lv (by kernel_rfl) (some 41) rfl (v := ?_) ?_ ?_
  rotate_left
  · go_simp; (try simp only [IntKind.wrap_i64, Int.reduceAdd, Int.reduceSub, Int.reduceMod, Int.reducePow, Int.reduceNeg]); try with_reducible rfl
  try simp only [Act.put, List.setIfInBounds_toArray, List.set_cons_zero, List.set_cons_succ]
  with_reducible refine lu (by kernel_rfl) (some 42) rfl ?_
  try simp only [Act.put, List.setIfInBounds_toArray, List.set_cons_zero, List.set_cons_succ]
  with_reducible refine lu (by kernel_rfl) (some 43) rfl ?_
  try simp only [Act.put, List.setIfInBounds_toArray, List.set_cons_zero, List.set_cons_succ]
  refine lv (by kernel_rfl) (some 44) rfl (v := ?_) ?_ ?_
  rotate_left
  · go_simp; (try simp only [IntKind.wrap_i64, Int.reduceAdd, Int.reduceSub, Int.reduceMod, Int.reducePow, Int.reduceNeg]); try with_reducible rfl
  try simp only [Act.put, List.setIfInBounds_toArray, List.set_cons_zero, List.set_cons_succ]
  refine wpList_nil ?_
  go_upto_region 10 with fail
  refine wp_region_lit ?_
  refine lv (by kernel_rfl) (some 45) rfl (v := ?_) ?_ ?_
  rotate_left
  · go_simp; (try simp only [IntKind.wrap_i64, Int.reduceAdd, Int.reduceSub, Int.reduceMod, Int.reducePow, Int.reduceNeg]); try with_reducible rfl
  try simp only [Act.put, List.setIfInBounds_toArray, List.set_cons_zero, List.set_cons_succ]
  refine lv (by kernel_rfl) (some 46) rfl (v := ?_) ?_ ?_
  rotate_left
  · go_simp; (try simp only [IntKind.wrap_i64, Int.reduceAdd, Int.reduceSub, Int.reduceMod, Int.reducePow, Int.reduceNeg]); try with_reducible rfl
  try simp only [Act.put, List.setIfInBounds_toArray, List.set_cons_zero, List.set_cons_succ]
  refine lv (by kernel_rfl) (some 47) rfl (v := ?_) ?_ ?_
  rotate_left
  · go_simp; (try simp only [IntKind.wrap_i64, Int.reduceAdd, Int.reduceSub, Int.reduceMod, Int.reducePow, Int.reduceNeg]); try with_reducible rfl
  try simp only [Act.put, List.setIfInBounds_toArray, List.set_cons_zero, List.set_cons_succ]
  refine lv (by kernel_rfl) (some 48) rfl (v := ?_) ?_ ?_
  rotate_left
  · go_simp; (try simp only [IntKind.wrap_i64, Int.reduceAdd, Int.reduceSub, Int.reduceMod, Int.reducePow, Int.reduceNeg]); try with_reducible rfl
  try simp only [Act.put, List.setIfInBounds_toArray, List.set_cons_zero, List.set_cons_succ]
  refine ly MN0 (some 49) rfl (yi_cell 0 5 (.tmp 48) rfl rfl rfl _ rfl _ Try.underlying5 rfl) ?_
  try simp only [Act.put, List.setIfInBounds_toArray, List.set_cons_zero, List.set_cons_succ]
  refine lv (by kernel_rfl) (some 50) rfl (v := ?_) ?_ ?_
  rotate_left
  · go_simp; (try simp only [IntKind.wrap_i64, Int.reduceAdd, Int.reduceSub, Int.reduceMod, Int.reducePow, Int.reduceNeg]); try with_reducible rfl
  try simp only [Act.put, List.setIfInBounds_toArray, List.set_cons_zero, List.set_cons_succ]
  refine l_cell MN0 1 rfl 5 (.tmp 50) _ rfl rfl rfl _ rfl _ rfl (by kernel_rfl) (by kernel_rfl) rfl rfl (a16 (mix P X 5 2)) (by kernel_rfl) _ rfl (fun s4 M4 => ?_)
  clear MN0
  try simp only [List.cons_append, List.nil_append, List.set_cons_zero, List.set_cons_succ] at M4
  try simp only [Act.put, List.setIfInBounds_toArray, List.set_cons_zero, List.set_cons_succ]
  refine wpList_nil ?_
  go_upto_region 6 with fail
  refine wp_region_lit ?_
  refine lv (by kernel_rfl) (some 22) rfl (v := ?_) ?_ ?_
  rotate_left
  · go_simp; (try simp only [IntKind.wrap_i64, Int.reduceAdd, Int.reduceSub, Int.reduceMod, Int.reducePow, Int.reduceNeg]); try with_reducible rfl
  try simp only [Act.put, List.setIfInBounds_toArray, List.set_cons_zero, List.set_cons_succ]
  refine lv (by kernel_rfl) (some 23) rfl (v := ?_) ?_ ?_
  rotate_left
  · go_simp; (try simp only [IntKind.wrap_i64, Int.reduceAdd, Int.reduceSub, Int.reduceMod, Int.reducePow, Int.reduceNeg]); try with_reducible rfl
  try simp only [Act.put, List.setIfInBounds_toArray, List.set_cons_zero, List.set_cons_succ]
  refine lv (by kernel_rfl) (some 11) rfl (v := ?_) ?_ ?_
  rotate_left
  · go_simp; (try simp only [IntKind.wrap_i64, Int.reduceAdd, Int.reduceSub, Int.reduceMod, Int.reducePow, Int.reduceNeg]); try with_reducible rfl
  try simp only [Act.put, List.setIfInBounds_toArray, List.set_cons_zero, List.set_cons_succ]
  refine wpList_nil ?_
  go_wp2_with fail
  have MN1 : Mem w _ [(w.heap.size, 26, (netC (clr P 5 2) 40)), (w.heap.size + 1, 23, (a16 (mix P X 5 2))), _] := M4
  clear M4
  rw [rounds_succ]
  go_upto_region 5 with fail
  refine wp_region_lit ?_
  refine lv (by kernel_rfl) (some 20) rfl (v := ?_) ?_ ?_
  rotate_left
  · go_simp; (try simp only [IntKind.wrap_i64, Int.reduceAdd, Int.reduceSub, Int.reduceMod, Int.reducePow, Int.reduceNeg]); try with_reducible rfl
  try simp only [Act.put, List.setIfInBounds_toArray, List.set_cons_zero, List.set_cons_succ]
  refine lv (by kernel_rfl) (some 21) rfl (v := ?_) ?_ ?_
  rotate_left
  · go_simp; (try simp only [IntKind.wrap_i64, Int.reduceAdd, Int.reduceSub, Int.reduceMod, Int.reducePow, Int.reduceNeg]); try with_reducible rfl
  try simp only [Act.put, List.setIfInBounds_toArray, List.set_cons_zero, List.set_cons_succ]
  refine wpList_nil ?_
  go_upto_region 7 with fail
  refine wp_region_lit ?_
  refine lv (by kernel_rfl) (some 24) rfl (v := ?_) ?_ ?_
  rotate_left
  · go_simp; (try simp only [IntKind.wrap_i64, Int.reduceAdd, Int.reduceSub, Int.reduceMod, Int.reducePow, Int.reduceNeg]); try with_reducible rfl
  try simp only [Act.put, List.setIfInBounds_toArray, List.set_cons_zero, List.set_cons_succ]
  refine lv (by kernel_rfl) (some 25) rfl (v := ?_) ?_ ?_
  rotate_left
  · go_simp; (try simp only [IntKind.wrap_i64, Int.reduceAdd, Int.reduceSub, Int.reduceMod, Int.reducePow, Int.reduceNeg]); try with_reducible rfl
  try simp only [Act.put, List.setIfInBounds_toArray, List.set_cons_zero, List.set_cons_succ]
  refine ly MN1 (some 26) rfl (yi_cell 0 3 (.tmp 25) rfl rfl rfl _ rfl _ Try.underlying3 rfl) ?_
  try simp only [Act.put, List.setIfInBounds_toArray, List.set_cons_zero, List.set_cons_succ]
  refine lv (by kernel_rfl) (some 27) rfl (v := ?_) ?_ ?_
  rotate_left
  · go_simp; (try simp only [IntKind.wrap_i64, Int.reduceAdd, Int.reduceSub, Int.reduceMod, Int.reducePow, Int.reduceNeg]); try with_reducible rfl
  try simp only [Act.put, List.setIfInBounds_toArray, List.set_cons_zero, List.set_cons_succ]
  refine lv (by kernel_rfl) (some 28) rfl (v := ?_) ?_ ?_
  rotate_left
  · go_simp; (try simp only [IntKind.wrap_i64, Int.reduceAdd, Int.reduceSub, Int.reduceMod, Int.reducePow, Int.reduceNeg]); try with_reducible rfl
  try simp only [Act.put, List.setIfInBounds_toArray, List.set_cons_zero, List.set_cons_succ]
  refine lv (by kernel_rfl) (some 29) rfl (v := ?_) ?_ ?_
  rotate_left
  · go_simp; (try simp only [IntKind.wrap_i64, Int.reduceAdd, Int.reduceSub, Int.reduceMod, Int.reducePow, Int.reduceNeg]); try with_reducible rfl
  try simp only [Act.put, List.setIfInBounds_toArray, List.set_cons_zero, List.set_cons_succ]
  refine lv (by kernel_rfl) (some 30) rfl (v := ?_) ?_ ?_
  rotate_left
  · go_simp; (try simp only [IntKind.wrap_i64, Int.reduceAdd, Int.reduceSub, Int.reduceMod, Int.reducePow, Int.reduceNeg]); try with_reducible rfl
  try simp only [Act.put, List.setIfInBounds_toArray, List.set_cons_zero, List.set_cons_succ]
  refine lv (by kernel_rfl) (some 31) rfl (v := ?_) ?_ ?_
  rotate_left
  · go_simp; (try simp only [IntKind.wrap_i64, Int.reduceAdd, Int.reduceSub, Int.reduceMod, Int.reducePow, Int.reduceNeg]); try with_reducible rfl
  try simp only [Act.put, List.setIfInBounds_toArray, List.set_cons_zero, List.set_cons_succ]
  refine lv (by kernel_rfl) (some 32) rfl (v := ?_) ?_ ?_
  rotate_left
  · go_simp; (try simp only [IntKind.wrap_i64, Int.reduceAdd, Int.reduceSub, Int.reduceMod, Int.reducePow, Int.reduceNeg]); try with_reducible rfl
  try simp only [Act.put, List.setIfInBounds_toArray, List.set_cons_zero, List.set_cons_succ]
  refine wpList_nil ?_
  go_upto_region 9 with fail
  refine wp_region_lit ?_
  refine lv (by kernel_rfl) (some 36) rfl (v := ?_) ?_ ?_
  rotate_left
  · go_simp; (try simp only [IntKind.wrap_i64, Int.reduceAdd, Int.reduceSub, Int.reduceMod, Int.reducePow, Int.reduceNeg]); try with_reducible rfl
  try simp only [Act.put, List.setIfInBounds_toArray, List.set_cons_zero, List.set_cons_succ]
  refine lv (by kernel_rfl) (some 37) rfl (v := ?_) ?_ ?_
  rotate_left
  · go_simp; (try simp only [IntKind.wrap_i64, Int.reduceAdd, Int.reduceSub, Int.reduceMod, Int.reducePow, Int.reduceNeg]); try with_reducible rfl
  try simp only [Act.put, List.setIfInBounds_toArray, List.set_cons_zero, List.set_cons_succ]
  refine ly MN1 (some 38) rfl (yi_cell 0 3 (.tmp 37) rfl rfl rfl _ rfl _ Try.underlying3 rfl) ?_
  try simp only [Act.put, List.setIfInBounds_toArray, List.set_cons_zero, List.set_cons_succ]
  refine lv (by kernel_rfl) (some 39) rfl (v := ?_) ?_ ?_
  rotate_left
  · go_simp; (try simp only [IntKind.wrap_i64, Int.reduceAdd, Int.reduceSub, Int.reduceMod, Int.reducePow, Int.reduceNeg]); try with_reducible rfl
  try simp only [Act.put, List.setIfInBounds_toArray, List.set_cons_zero, List.set_cons_succ]
  refine lv (by kernel_rfl) (some 40) rfl (v := ?_) ?_ ?_
  rotate_left
  · go_simp; (try simp only [IntKind.wrap_i64, Int.reduceAdd, Int.reduceSub, Int.reduceMod, Int.reducePow, Int.reduceNeg]); try with_reducible rfl
  try simp only [Act.put, List.setIfInBounds_toArray, List.set_cons_zero, List.set_cons_succ]
  refine lv (by kernel_rfl) (some 41) rfl (v := ?_) ?_ ?_
  rotate_left
  · go_simp; (try simp only [IntKind.wrap_i64, Int.reduceAdd, Int.reduceSub, Int.reduceMod, Int.reducePow, Int.reduceNeg]); try with_reducible rfl
  try simp only [Act.put, List.setIfInBounds_toArray, List.set_cons_zero, List.set_cons_succ]
  with_reducible refine lu (by kernel_rfl) (some 42) rfl ?_
  try simp only [Act.put, List.setIfInBounds_toArray, List.set_cons_zero, List.set_cons_succ]
  with_reducible refine lu (by kernel_rfl) (some 43) rfl ?_
  try simp only [Act.put, List.setIfInBounds_toArray, List.set_cons_zero, List.set_cons_succ]
  refine lv (by kernel_rfl) (some 44) rfl (v := ?_) ?_ ?_
  rotate_left
  · go_simp; (try simp only [IntKind.wrap_i64, Int.reduceAdd, Int.reduceSub, Int.reduceMod, Int.reducePow, Int.reduceNeg]); try with_reducible rfl
  try simp only [Act.put, List.setIfInBounds_toArray, List.set_cons_zero, List.set_cons_succ]
  refine wpList_nil ?_
  go_upto_region 10 with fail
  refine wp_region_lit ?_
  refine lv (by kernel_rfl) (some 45) rfl (v := ?_) ?_ ?_
  rotate_left
  · go_simp; (try simp only [IntKind.wrap_i64, Int.reduceAdd, Int.reduceSub, Int.reduceMod, Int.reducePow, Int.reduceNeg]); try with_reducible rfl
  try simp only [Act.put, List.setIfInBounds_toArray, List.set_cons_zero, List.set_cons_succ]
  refine lv (by kernel_rfl) (some 46) rfl (v := ?_) ?_ ?_
  rotate_left
  · go_simp; (try simp only [IntKind.wrap_i64, Int.reduceAdd, Int.reduceSub, Int.reduceMod, Int.reducePow, Int.reduceNeg]); try with_reducible rfl
  try simp only [Act.put, List.setIfInBounds_toArray, List.set_cons_zero, List.set_cons_succ]
  refine lv (by kernel_rfl) (some 47) rfl (v := ?_) ?_ ?_
  rotate_left
  · go_simp; (try simp only [IntKind.wrap_i64, Int.reduceAdd, Int.reduceSub, Int.reduceMod, Int.reducePow, Int.reduceNeg]); try with_reducible rfl
  try simp only [Act.put, List.setIfInBounds_toArray, List.set_cons_zero, List.set_cons_succ]
  refine lv (by kernel_rfl) (some 48) rfl (v := ?_) ?_ ?_
  rotate_left
  · go_simp; (try simp only [IntKind.wrap_i64, Int.reduceAdd, Int.reduceSub, Int.reduceMod, Int.reducePow, Int.reduceNeg]); try with_reducible rfl
  try simp only [Act.put, List.setIfInBounds_toArray, List.set_cons_zero, List.set_cons_succ]
  refine ly MN1 (some 49) rfl (yi_cell 0 5 (.tmp 48) rfl rfl rfl _ rfl _ Try.underlying5 rfl) ?_
  try simp only [Act.put, List.setIfInBounds_toArray, List.set_cons_zero, List.set_cons_succ]
  refine lv (by kernel_rfl) (some 50) rfl (v := ?_) ?_ ?_
  rotate_left
  · go_simp; (try simp only [IntKind.wrap_i64, Int.reduceAdd, Int.reduceSub, Int.reduceMod, Int.reducePow, Int.reduceNeg]); try with_reducible rfl
  try simp only [Act.put, List.setIfInBounds_toArray, List.set_cons_zero, List.set_cons_succ]
  refine l_cell MN1 1 rfl 5 (.tmp 50) _ rfl rfl rfl _ rfl _ rfl (by kernel_rfl) (by kernel_rfl) rfl rfl (a16 (mix P X 5 3)) (by kernel_rfl) _ rfl (fun s5 M5 => ?_)
  clear MN1
  try simp only [List.cons_append, List.nil_append, List.set_cons_zero, List.set_cons_succ] at M5
  try simp only [Act.put, List.setIfInBounds_toArray, List.set_cons_zero, List.set_cons_succ]
  refine wpList_nil ?_
  go_upto_region 6 with fail
  refine wp_region_lit ?_
  refine lv (by kernel_rfl) (some 22) rfl (v := ?_) ?_ ?_
  rotate_left
  · go_simp; (try simp only [IntKind.wrap_i64, Int.reduceAdd, Int.reduceSub, Int.reduceMod, Int.reducePow, Int.reduceNeg]); try with_reducible rfl
  try simp only [Act.put, List.setIfInBounds_toArray, List.set_cons_zero, List.set_cons_succ]
  refine lv (by kernel_rfl) (some 23) rfl (v := ?_) ?_ ?_
  rotate_left
  · go_simp; (try simp only [IntKind.wrap_i64, Int.reduceAdd, Int.reduceSub, Int.reduceMod, Int.reducePow, Int.reduceNeg]); try with_reducible rfl
  try simp only [Act.put, List.setIfInBounds_toArray, List.set_cons_zero, List.set_cons_succ]
  refine lv (by kernel_rfl) (some 11) rfl (v := ?_) ?_ ?_
  rotate_left
  · go_simp; (try simp only [IntKind.wrap_i64, Int.reduceAdd, Int.reduceSub, Int.reduceMod, Int.reducePow, Int.reduceNeg]); try with_reducible rfl
  try simp only [Act.put, List.setIfInBounds_toArray, List.set_cons_zero, List.set_cons_succ]
  refine wpList_nil ?_
  go_wp2_with fail
  have MN2 : Mem w _ [(w.heap.size, 26, (netC (clr P 5 3) 40)), (w.heap.size + 1, 23, (a16 (mix P X 5 3))), _] := M5
  clear M5
  rw [rounds_succ]
  go_upto_region 5 with fail
  refine wp_region_lit ?_
  refine lv (by kernel_rfl) (some 20) rfl (v := ?_) ?_ ?_
  rotate_left
  · go_simp; (try simp only [IntKind.wrap_i64, Int.reduceAdd, Int.reduceSub, Int.reduceMod, Int.reducePow, Int.reduceNeg]); try with_reducible rfl
  try simp only [Act.put, List.setIfInBounds_toArray, List.set_cons_zero, List.set_cons_succ]
  refine lv (by kernel_rfl) (some 21) rfl (v := ?_) ?_ ?_
  rotate_left
  · go_simp; (try simp only [IntKind.wrap_i64, Int.reduceAdd, Int.reduceSub, Int.reduceMod, Int.reducePow, Int.reduceNeg]); try with_reducible rfl
  try simp only [Act.put, List.setIfInBounds_toArray, List.set_cons_zero, List.set_cons_succ]
  refine wpList_nil ?_
  go_upto_region 7 with fail
  refine wp_region_lit ?_
  refine lv (by kernel_rfl) (some 24) rfl (v := ?_) ?_ ?_
  rotate_left
  · go_simp; (try simp only [IntKind.wrap_i64, Int.reduceAdd, Int.reduceSub, Int.reduceMod, Int.reducePow, Int.reduceNeg]); try with_reducible rfl
  try simp only [Act.put, List.setIfInBounds_toArray, List.set_cons_zero, List.set_cons_succ]
  refine lv (by kernel_rfl) (some 25) rfl (v := ?_) ?_ ?_
  rotate_left
  · go_simp; (try simp only [IntKind.wrap_i64, Int.reduceAdd, Int.reduceSub, Int.reduceMod, Int.reducePow, Int.reduceNeg]); try with_reducible rfl
  try simp only [Act.put, List.setIfInBounds_toArray, List.set_cons_zero, List.set_cons_succ]
  refine ly MN2 (some 26) rfl (yi_cell 0 3 (.tmp 25) rfl rfl rfl _ rfl _ Try.underlying3 rfl) ?_
  try simp only [Act.put, List.setIfInBounds_toArray, List.set_cons_zero, List.set_cons_succ]
  refine lv (by kernel_rfl) (some 27) rfl (v := ?_) ?_ ?_
  rotate_left
  · go_simp; (try simp only [IntKind.wrap_i64, Int.reduceAdd, Int.reduceSub, Int.reduceMod, Int.reducePow, Int.reduceNeg]); try with_reducible rfl
  try simp only [Act.put, List.setIfInBounds_toArray, List.set_cons_zero, List.set_cons_succ]
  refine lv (by kernel_rfl) (some 28) rfl (v := ?_) ?_ ?_
  rotate_left
  · go_simp; (try simp only [IntKind.wrap_i64, Int.reduceAdd, Int.reduceSub, Int.reduceMod, Int.reducePow, Int.reduceNeg]); try with_reducible rfl
  try simp only [Act.put, List.setIfInBounds_toArray, List.set_cons_zero, List.set_cons_succ]
  refine lv (by kernel_rfl) (some 29) rfl (v := ?_) ?_ ?_
  rotate_left
  · go_simp; (try simp only [IntKind.wrap_i64, Int.reduceAdd, Int.reduceSub, Int.reduceMod, Int.reducePow, Int.reduceNeg]); try with_reducible rfl
  try simp only [Act.put, List.setIfInBounds_toArray, List.set_cons_zero, List.set_cons_succ]
  refine lv (by kernel_rfl) (some 30) rfl (v := ?_) ?_ ?_
  rotate_left
  · go_simp; (try simp only [IntKind.wrap_i64, Int.reduceAdd, Int.reduceSub, Int.reduceMod, Int.reducePow, Int.reduceNeg]); try with_reducible rfl
  try simp only [Act.put, List.setIfInBounds_toArray, List.set_cons_zero, List.set_cons_succ]
  refine lv (by kernel_rfl) (some 31) rfl (v := ?_) ?_ ?_
  rotate_left
  · go_simp; (try simp only [IntKind.wrap_i64, Int.reduceAdd, Int.reduceSub, Int.reduceMod, Int.reducePow, Int.reduceNeg]); try with_reducible rfl
  try simp only [Act.put, List.setIfInBounds_toArray, List.set_cons_zero, List.set_cons_succ]
  refine lv (by kernel_rfl) (some 32) rfl (v := ?_) ?_ ?_
  rotate_left
  · go_simp; (try simp only [IntKind.wrap_i64, Int.reduceAdd, Int.reduceSub, Int.reduceMod, Int.reducePow, Int.reduceNeg]); try with_reducible rfl
  try simp only [Act.put, List.setIfInBounds_toArray, List.set_cons_zero, List.set_cons_succ]
  refine wpList_nil ?_
  go_upto_region 9 with fail
  refine wp_region_lit ?_
  refine lv (by kernel_rfl) (some 36) rfl (v := ?_) ?_ ?_
  rotate_left
  · go_simp; (try simp only [IntKind.wrap_i64, Int.reduceAdd, Int.reduceSub, Int.reduceMod, Int.reducePow, Int.reduceNeg]); try with_reducible rfl
  try simp only [Act.put, List.setIfInBounds_toArray, List.set_cons_zero, List.set_cons_succ]
  refine lv (by kernel_rfl) (some 37) rfl (v := ?_) ?_ ?_
  rotate_left
  · go_simp; (try simp only [IntKind.wrap_i64, Int.reduceAdd, Int.reduceSub, Int.reduceMod, Int.reducePow, Int.reduceNeg]); try with_reducible rfl
  try simp only [Act.put, List.setIfInBounds_toArray, List.set_cons_zero, List.set_cons_succ]
  refine ly MN2 (some 38) rfl (yi_cell 0 3 (.tmp 37) rfl rfl rfl _ rfl _ Try.underlying3 rfl) ?_
  try simp only [Act.put, List.setIfInBounds_toArray, List.set_cons_zero, List.set_cons_succ]
  refine lv (by kernel_rfl) (some 39) rfl (v := ?_) ?_ ?_
  rotate_left
  · go_simp; (try simp only [IntKind.wrap_i64, Int.reduceAdd, Int.reduceSub, Int.reduceMod, Int.reducePow, Int.reduceNeg]); try with_reducible rfl
  try simp only [Act.put, List.setIfInBounds_toArray, List.set_cons_zero, List.set_cons_succ]
  refine lv (by kernel_rfl) (some 40) rfl (v := ?_) ?_ ?_
  rotate_left
  · go_simp; (try simp only [IntKind.wrap_i64, Int.reduceAdd, Int.reduceSub, Int.reduceMod, Int.reducePow, Int.reduceNeg]); try with_reducible rfl
  try simp only [Act.put, List.setIfInBounds_toArray, List.set_cons_zero, List.set_cons_succ]
  refine lv (by kernel_rfl) (some 41) rfl (v := ?_) ?_ ?_
  rotate_left
  · go_simp; (try simp only [IntKind.wrap_i64, Int.reduceAdd, Int.reduceSub, Int.reduceMod, Int.reducePow, Int.reduceNeg]); try with_reducible rfl
  try simp only [Act.put, List.setIfInBounds_toArray, List.set_cons_zero, List.set_cons_succ]
  with_reducible refine lu (by kernel_rfl) (some 42) rfl ?_
  try simp only [Act.put, List.setIfInBounds_toArray, List.set_cons_zero, List.set_cons_succ]
  with_reducible refine lu (by kernel_rfl) (some 43) rfl ?_
  try simp only [Act.put, List.setIfInBounds_toArray, List.set_cons_zero, List.set_cons_succ]
  refine lv (by kernel_rfl) (some 44) rfl (v := ?_) ?_ ?_
  rotate_left
  · go_simp; (try simp only [IntKind.wrap_i64, Int.reduceAdd, Int.reduceSub, Int.reduceMod, Int.reducePow, Int.reduceNeg]); try with_reducible rfl
  try simp only [Act.put, List.setIfInBounds_toArray, List.set_cons_zero, List.set_cons_succ]
  refine wpList_nil ?_
  go_upto_region 10 with fail
  refine wp_region_lit ?_
  refine lv (by kernel_rfl) (some 45) rfl (v := ?_) ?_ ?_
  rotate_left
  · go_simp; (try simp only [IntKind.wrap_i64, Int.reduceAdd, Int.reduceSub, Int.reduceMod, Int.reducePow, Int.reduceNeg]); try with_reducible rfl
  try simp only [Act.put, List.setIfInBounds_toArray, List.set_cons_zero, List.set_cons_succ]
  refine lv (by kernel_rfl) (some 46) rfl (v := ?_) ?_ ?_
  rotate_left
  · go_simp; (try simp only [IntKind.wrap_i64, Int.reduceAdd, Int.reduceSub, Int.reduceMod, Int.reducePow, Int.reduceNeg]); try with_reducible rfl
  try simp only [Act.put, List.setIfInBounds_toArray, List.set_cons_zero, List.set_cons_succ]
  refine lv (by kernel_rfl) (some 47) rfl (v := ?_) ?_ ?_
  rotate_left
  · go_simp; (try simp only [IntKind.wrap_i64, Int.reduceAdd, Int.reduceSub, Int.reduceMod, Int.reducePow, Int.reduceNeg]); try with_reducible rfl
  try simp only [Act.put, List.setIfInBounds_toArray, List.set_cons_zero, List.set_cons_succ]
  refine lv (by kernel_rfl) (some 48) rfl (v := ?_) ?_ ?_
  rotate_left
  · go_simp; (try simp only [IntKind.wrap_i64, Int.reduceAdd, Int.reduceSub, Int.reduceMod, Int.reducePow, Int.reduceNeg]); try with_reducible rfl
  try simp only [Act.put, List.setIfInBounds_toArray, List.set_cons_zero, List.set_cons_succ]
  refine ly MN2 (some 49) rfl (yi_cell 0 5 (.tmp 48) rfl rfl rfl _ rfl _ Try.underlying5 rfl) ?_
  try simp only [Act.put, List.setIfInBounds_toArray, List.set_cons_zero, List.set_cons_succ]
  refine lv (by kernel_rfl) (some 50) rfl (v := ?_) ?_ ?_
  rotate_left
  · go_simp; (try simp only [IntKind.wrap_i64, Int.reduceAdd, Int.reduceSub, Int.reduceMod, Int.reducePow, Int.reduceNeg]); try with_reducible rfl
  try simp only [Act.put, List.setIfInBounds_toArray, List.set_cons_zero, List.set_cons_succ]
  refine l_cell MN2 1 rfl 5 (.tmp 50) _ rfl rfl rfl _ rfl _ rfl (by kernel_rfl) (by kernel_rfl) rfl rfl (a16 (mix P X 5 4)) (by kernel_rfl) _ rfl (fun s6 M6 => ?_)
  clear MN2
  try simp only [List.cons_append, List.nil_append, List.set_cons_zero, List.set_cons_succ] at M6
  try simp only [Act.put, List.setIfInBounds_toArray, List.set_cons_zero, List.set_cons_succ]
  refine wpList_nil ?_
  go_upto_region 6 with fail
  refine wp_region_lit ?_
  refine lv (by kernel_rfl) (some 22) rfl (v := ?_) ?_ ?_
  rotate_left
  · go_simp; (try simp only [IntKind.wrap_i64, Int.reduceAdd, Int.reduceSub, Int.reduceMod, Int.reducePow, Int.reduceNeg]); try with_reducible rfl
  try simp only [Act.put, List.setIfInBounds_toArray, List.set_cons_zero, List.set_cons_succ]
  refine lv (by kernel_rfl) (some 23) rfl (v := ?_) ?_ ?_
  rotate_left
  · go_simp; (try simp only [IntKind.wrap_i64, Int.reduceAdd, Int.reduceSub, Int.reduceMod, Int.reducePow, Int.reduceNeg]); try with_reducible rfl
  try simp only [Act.put, List.setIfInBounds_toArray, List.set_cons_zero, List.set_cons_succ]
  refine lv (by kernel_rfl) (some 11) rfl (v := ?_) ?_ ?_
  rotate_left
  · go_simp; (try simp only [IntKind.wrap_i64, Int.reduceAdd, Int.reduceSub, Int.reduceMod, Int.reducePow, Int.reduceNeg]); try with_reducible rfl
  try simp only [Act.put, List.setIfInBounds_toArray, List.set_cons_zero, List.set_cons_succ]
  refine wpList_nil ?_
  go_wp2_with fail
  have MN3 : Mem w _ [(w.heap.size, 26, (netC (clr P 5 4) 40)), (w.heap.size + 1, 23, (a16 (mix P X 5 4))), _] := M6
  clear M6
  rw [rounds_succ]
  go_upto_region 5 with fail
  refine wp_region_lit ?_
  refine lv (by kernel_rfl) (some 20) rfl (v := ?_) ?_ ?_
  rotate_left
  · go_simp; (try simp only [IntKind.wrap_i64, Int.reduceAdd, Int.reduceSub, Int.reduceMod, Int.reducePow, Int.reduceNeg]); try with_reducible rfl
  try simp only [Act.put, List.setIfInBounds_toArray, List.set_cons_zero, List.set_cons_succ]
  refine lv (by kernel_rfl) (some 21) rfl (v := ?_) ?_ ?_
  rotate_left
  · go_simp; (try simp only [IntKind.wrap_i64, Int.reduceAdd, Int.reduceSub, Int.reduceMod, Int.reducePow, Int.reduceNeg]); try with_reducible rfl
  try simp only [Act.put, List.setIfInBounds_toArray, List.set_cons_zero, List.set_cons_succ]
  refine wpList_nil ?_
  go_upto_region 7 with fail
  refine wp_region_lit ?_
  refine lv (by kernel_rfl) (some 24) rfl (v := ?_) ?_ ?_
  rotate_left
  · go_simp; (try simp only [IntKind.wrap_i64, Int.reduceAdd, Int.reduceSub, Int.reduceMod, Int.reducePow, Int.reduceNeg]); try with_reducible rfl
  try simp only [Act.put, List.setIfInBounds_toArray, List.set_cons_zero, List.set_cons_succ]
  refine lv (by kernel_rfl) (some 25) rfl (v := ?_) ?_ ?_
  rotate_left
  · go_simp; (try simp only [IntKind.wrap_i64, Int.reduceAdd, Int.reduceSub, Int.reduceMod, Int.reducePow, Int.reduceNeg]); try with_reducible rfl
  try simp only [Act.put, List.setIfInBounds_toArray, List.set_cons_zero, List.set_cons_succ]
  refine ly MN3 (some 26) rfl (yi_cell 0 3 (.tmp 25) rfl rfl rfl _ rfl _ Try.underlying3 rfl) ?_
  try simp only [Act.put, List.setIfInBounds_toArray, List.set_cons_zero, List.set_cons_succ]
  refine lv (by kernel_rfl) (some 27) rfl (v := ?_) ?_ ?_
  rotate_left
  · go_simp; (try simp only [IntKind.wrap_i64, Int.reduceAdd, Int.reduceSub, Int.reduceMod, Int.reducePow, Int.reduceNeg]); try with_reducible rfl
  try simp only [Act.put, List.setIfInBounds_toArray, List.set_cons_zero, List.set_cons_succ]
  refine lv (by kernel_rfl) (some 28) rfl (v := ?_) ?_ ?_
  rotate_left
  · go_simp; (try simp only [IntKind.wrap_i64, Int.reduceAdd, Int.reduceSub, Int.reduceMod, Int.reducePow, Int.reduceNeg]); try with_reducible rfl
  try simp only [Act.put, List.setIfInBounds_toArray, List.set_cons_zero, List.set_cons_succ]
  refine lv (by kernel_rfl) (some 29) rfl (v := ?_) ?_ ?_
  rotate_left
  · go_simp; (try simp only [IntKind.wrap_i64, Int.reduceAdd, Int.reduceSub, Int.reduceMod, Int.reducePow, Int.reduceNeg]); try with_reducible rfl
  try simp only [Act.put, List.setIfInBounds_toArray, List.set_cons_zero, List.set_cons_succ]
  refine lv (by kernel_rfl) (some 30) rfl (v := ?_) ?_ ?_
  rotate_left
  · go_simp; (try simp only [IntKind.wrap_i64, Int.reduceAdd, Int.reduceSub, Int.reduceMod, Int.reducePow, Int.reduceNeg]); try with_reducible rfl
  try simp only [Act.put, List.setIfInBounds_toArray, List.set_cons_zero, List.set_cons_succ]
  refine lv (by kernel_rfl) (some 31) rfl (v := ?_) ?_ ?_
  rotate_left
  · go_simp; (try simp only [IntKind.wrap_i64, Int.reduceAdd, Int.reduceSub, Int.reduceMod, Int.reducePow, Int.reduceNeg]); try with_reducible rfl
  try simp only [Act.put, List.setIfInBounds_toArray, List.set_cons_zero, List.set_cons_succ]
  refine lv (by kernel_rfl) (some 32) rfl (v := ?_) ?_ ?_
  rotate_left
  · go_simp; (try simp only [IntKind.wrap_i64, Int.reduceAdd, Int.reduceSub, Int.reduceMod, Int.reducePow, Int.reduceNeg]); try with_reducible rfl
  try simp only [Act.put, List.setIfInBounds_toArray, List.set_cons_zero, List.set_cons_succ]
  refine wpList_nil ?_
  go_upto_region 9 with fail
  refine wp_region_lit ?_
  refine lv (by kernel_rfl) (some 36) rfl (v := ?_) ?_ ?_
  rotate_left
  · go_simp; (try simp only [IntKind.wrap_i64, Int.reduceAdd, Int.reduceSub, Int.reduceMod, Int.reducePow, Int.reduceNeg]); try with_reducible rfl
  try simp only [Act.put, List.setIfInBounds_toArray, List.set_cons_zero, List.set_cons_succ]
  refine lv (by kernel_rfl) (some 37) rfl (v := ?_) ?_ ?_
  rotate_left
  · go_simp; (try simp only [IntKind.wrap_i64, Int.reduceAdd, Int.reduceSub, Int.reduceMod, Int.reducePow, Int.reduceNeg]); try with_reducible rfl
  try simp only [Act.put, List.setIfInBounds_toArray, List.set_cons_zero, List.set_cons_succ]
  refine ly MN3 (some 38) rfl (yi_cell 0 3 (.tmp 37) rfl rfl rfl _ rfl _ Try.underlying3 rfl) ?_
  try simp only [Act.put, List.setIfInBounds_toArray, List.set_cons_zero, List.set_cons_succ]
  refine lv (by kernel_rfl) (some 39) rfl (v := ?_) ?_ ?_
  rotate_left
  · go_simp; (try simp only [IntKind.wrap_i64, Int.reduceAdd, Int.reduceSub, Int.reduceMod, Int.reducePow, Int.reduceNeg]); try with_reducible rfl
  try simp only [Act.put, List.setIfInBounds_toArray, List.set_cons_zero, List.set_cons_succ]
  refine lv (by kernel_rfl) (some 40) rfl (v := ?_) ?_ ?_
  rotate_left
  · go_simp; (try simp only [IntKind.wrap_i64, Int.reduceAdd, Int.reduceSub, Int.reduceMod, Int.reducePow, Int.reduceNeg]); try with_reducible rfl
  try simp only [Act.put, List.setIfInBounds_toArray, List.set_cons_zero, List.set_cons_succ]
  refine lv (by kernel_rfl) (some 41) rfl (v := ?_) ?_ ?_
  rotate_left
  · go_simp; (try simp only [IntKind.wrap_i64, Int.reduceAdd, Int.reduceSub, Int.reduceMod, Int.reducePow, Int.reduceNeg]); try with_reducible rfl
  try simp only [Act.put, List.setIfInBounds_toArray, List.set_cons_zero, List.set_cons_succ]
  with_reducible refine lu (by kernel_rfl) (some 42) rfl ?_
  try simp only [Act.put, List.setIfInBounds_toArray, List.set_cons_zero, List.set_cons_succ]
  with_reducible refine lu (by kernel_rfl) (some 43) rfl ?_
  try simp only [Act.put, List.setIfInBounds_toArray, List.set_cons_zero, List.set_cons_succ]
  refine lv (by kernel_rfl) (some 44) rfl (v := ?_) ?_ ?_
  rotate_left
  · go_simp; (try simp only [IntKind.wrap_i64, Int.reduceAdd, Int.reduceSub, Int.reduceMod, Int.reducePow, Int.reduceNeg]); try with_reducible rfl
  try simp only [Act.put, List.setIfInBounds_toArray, List.set_cons_zero, List.set_cons_succ]
  refine wpList_nil ?_
  go_upto_region 10 with fail
  refine wp_region_lit ?_
  refine lv (by kernel_rfl) (some 45) rfl (v := ?_) ?_ ?_
  rotate_left
  · go_simp; (try simp only [IntKind.wrap_i64, Int.reduceAdd, Int.reduceSub, Int.reduceMod, Int.reducePow, Int.reduceNeg]); try with_reducible rfl
  try simp only [Act.put, List.setIfInBounds_toArray, List.set_cons_zero, List.set_cons_succ]
  refine lv (by kernel_rfl) (some 46) rfl (v := ?_) ?_ ?_
  rotate_left
  · go_simp; (try simp only [IntKind.wrap_i64, Int.reduceAdd, Int.reduceSub, Int.reduceMod, Int.reducePow, Int.reduceNeg]); try with_reducible rfl
  try simp only [Act.put, List.setIfInBounds_toArray, List.set_cons_zero, List.set_cons_succ]
  refine lv (by kernel_rfl) (some 47) rfl (v := ?_) ?_ ?_
  rotate_left
  · go_simp; (try simp only [IntKind.wrap_i64, Int.reduceAdd, Int.reduceSub, Int.reduceMod, Int.reducePow, Int.reduceNeg]); try with_reducible rfl
  try simp only [Act.put, List.setIfInBounds_toArray, List.set_cons_zero, List.set_cons_succ]
  refine lv (by kernel_rfl) (some 48) rfl (v := ?_) ?_ ?_
  rotate_left
  · go_simp; (try simp only [IntKind.wrap_i64, Int.reduceAdd, Int.reduceSub, Int.reduceMod, Int.reducePow, Int.reduceNeg]); try with_reducible rfl
  try simp only [Act.put, List.setIfInBounds_toArray, List.set_cons_zero, List.set_cons_succ]
  refine ly MN3 (some 49) rfl (yi_cell 0 5 (.tmp 48) rfl rfl rfl _ rfl _ Try.underlying5 rfl) ?_
  try simp only [Act.put, List.setIfInBounds_toArray, List.set_cons_zero, List.set_cons_succ]
  refine lv (by kernel_rfl) (some 50) rfl (v := ?_) ?_ ?_
  rotate_left
  · go_simp; (try simp only [IntKind.wrap_i64, Int.reduceAdd, Int.reduceSub, Int.reduceMod, Int.reducePow, Int.reduceNeg]); try with_reducible rfl
  try simp only [Act.put, List.setIfInBounds_toArray, List.set_cons_zero, List.set_cons_succ]
  refine l_cell MN3 1 rfl 5 (.tmp 50) _ rfl rfl rfl _ rfl _ rfl (by kernel_rfl) (by kernel_rfl) rfl rfl (a16 (mix P X 5 5)) (by kernel_rfl) _ rfl (fun s7 M7 => ?_)
  clear MN3
  try simp only [List.cons_append, List.nil_append, List.set_cons_zero, List.set_cons_succ] at M7
  try simp only [Act.put, List.setIfInBounds_toArray, List.set_cons_zero, List.set_cons_succ]
  refine wpList_nil ?_
  go_upto_region 6 with fail
  refine wp_region_lit ?_
  refine lv (by kernel_rfl) (some 22) rfl (v := ?_) ?_ ?_
  rotate_left
  · go_simp; (try simp only [IntKind.wrap_i64, Int.reduceAdd, Int.reduceSub, Int.reduceMod, Int.reducePow, Int.reduceNeg]); try with_reducible rfl
  try simp only [Act.put, List.setIfInBounds_toArray, List.set_cons_zero, List.set_cons_succ]
  refine lv (by kernel_rfl) (some 23) rfl (v := ?_) ?_ ?_
  rotate_left
  · go_simp; (try simp only [IntKind.wrap_i64, Int.reduceAdd, Int.reduceSub, Int.reduceMod, Int.reducePow, Int.reduceNeg]); try with_reducible rfl
  try simp only [Act.put, List.setIfInBounds_toArray, List.set_cons_zero, List.set_cons_succ]
  refine lv (by kernel_rfl) (some 11) rfl (v := ?_) ?_ ?_
  rotate_left
  · go_simp; (try simp only [IntKind.wrap_i64, Int.reduceAdd, Int.reduceSub, Int.reduceMod, Int.reducePow, Int.reduceNeg]); try with_reducible rfl
  try simp only [Act.put, List.setIfInBounds_toArray, List.set_cons_zero, List.set_cons_succ]
  refine wpList_nil ?_
  go_wp2_with fail
  have MN4 : Mem w _ [(w.heap.size, 26, (netC (clr P 5 5) 40)), (w.heap.size + 1, 23, (a16 (mix P X 5 5))), _] := M7
  clear M7
  rw [rounds_succ]
  go_upto_region 5 with fail
  refine wp_region_lit ?_
  refine lv (by kernel_rfl) (some 20) rfl (v := ?_) ?_ ?_
  rotate_left
  · go_simp; (try simp only [IntKind.wrap_i64, Int.reduceAdd, Int.reduceSub, Int.reduceMod, Int.reducePow, Int.reduceNeg]); try with_reducible rfl
  try simp only [Act.put, List.setIfInBounds_toArray, List.set_cons_zero, List.set_cons_succ]
  refine lv (by kernel_rfl) (some 21) rfl (v := ?_) ?_ ?_
  rotate_left
  · go_simp; (try simp only [IntKind.wrap_i64, Int.reduceAdd, Int.reduceSub, Int.reduceMod, Int.reducePow, Int.reduceNeg]); try with_reducible rfl
  try simp only [Act.put, List.setIfInBounds_toArray, List.set_cons_zero, List.set_cons_succ]
  refine wpList_nil ?_
  go_upto_region 7 with fail
  refine wp_region_lit ?_
  refine lv (by kernel_rfl) (some 24) rfl (v := ?_) ?_ ?_
  rotate_left
  · go_simp; (try simp only [IntKind.wrap_i64, Int.reduceAdd, Int.reduceSub, Int.reduceMod, Int.reducePow, Int.reduceNeg]); try with_reducible rfl
  try simp only [Act.put, List.setIfInBounds_toArray, List.set_cons_zero, List.set_cons_succ]
  refine lv (by kernel_rfl) (some 25) rfl (v := ?_) ?_ ?_
  rotate_left
  · go_simp; (try simp only [IntKind.wrap_i64, Int.reduceAdd, Int.reduceSub, Int.reduceMod, Int.reducePow, Int.reduceNeg]); try with_reducible rfl
  try simp only [Act.put, List.setIfInBounds_toArray, List.set_cons_zero, List.set_cons_succ]
  refine ly MN4 (some 26) rfl (yi_cell 0 3 (.tmp 25) rfl rfl rfl _ rfl _ Try.underlying3 rfl) ?_
  try simp only [Act.put, List.setIfInBounds_toArray, List.set_cons_zero, List.set_cons_succ]
  refine lv (by kernel_rfl) (some 27) rfl (v := ?_) ?_ ?_
  rotate_left
  · go_simp; (try simp only [IntKind.wrap_i64, Int.reduceAdd, Int.reduceSub, Int.reduceMod, Int.reducePow, Int.reduceNeg]); try with_reducible rfl
  try simp only [Act.put, List.setIfInBounds_toArray, List.set_cons_zero, List.set_cons_succ]
  refine lv (by kernel_rfl) (some 28) rfl (v := ?_) ?_ ?_
  rotate_left
  · go_simp; (try simp only [IntKind.wrap_i64, Int.reduceAdd, Int.reduceSub, Int.reduceMod, Int.reducePow, Int.reduceNeg]); try with_reducible rfl
  try simp only [Act.put, List.setIfInBounds_toArray, List.set_cons_zero, List.set_cons_succ]
  refine lv (by kernel_rfl) (some 29) rfl (v := ?_) ?_ ?_
  rotate_left
  · go_simp; (try simp only [IntKind.wrap_i64, Int.reduceAdd, Int.reduceSub, Int.reduceMod, Int.reducePow, Int.reduceNeg]); try with_reducible rfl
  try simp only [Act.put, List.setIfInBounds_toArray, List.set_cons_zero, List.set_cons_succ]
  with_reducible refine lu (by kernel_rfl) (some 30) rfl ?_
  try simp only [Act.put, List.setIfInBounds_toArray, List.set_cons_zero, List.set_cons_succ]
  with_reducible refine lu (by kernel_rfl) (some 31) rfl ?_
  try simp only [Act.put, List.setIfInBounds_toArray, List.set_cons_zero, List.set_cons_succ]
  refine lv (by kernel_rfl) (some 32) rfl (v := ?_) ?_ ?_
  rotate_left
  · go_simp; (try simp only [IntKind.wrap_i64, Int.reduceAdd, Int.reduceSub, Int.reduceMod, Int.reducePow, Int.reduceNeg]); try with_reducible rfl
  try simp only [Act.put, List.setIfInBounds_toArray, List.set_cons_zero, List.set_cons_succ]
  refine wpList_nil ?_
  go_upto_region 8 with fail
  refine wp_region_lit ?_
  refine lv (by kernel_rfl) (some 33) rfl (v := ?_) ?_ ?_
  rotate_left
  · go_simp; (try simp only [IntKind.wrap_i64, Int.reduceAdd, Int.reduceSub, Int.reduceMod, Int.reducePow, Int.reduceNeg]); try with_reducible rfl
  try simp only [Act.put, List.setIfInBounds_toArray, List.set_cons_zero, List.set_cons_succ]
  refine lv (by kernel_rfl) (some 34) rfl (v := ?_) ?_ ?_
  rotate_left
  · go_simp; (try simp only [IntKind.wrap_i64, Int.reduceAdd, Int.reduceSub, Int.reduceMod, Int.reducePow, Int.reduceNeg]); try with_reducible rfl
  try simp only [Act.put, List.setIfInBounds_toArray, List.set_cons_zero, List.set_cons_succ]
  refine lv (by kernel_rfl) (some 35) rfl (v := ?_) ?_ ?_
  rotate_left
  · go_simp; (try simp only [IntKind.wrap_i64, Int.reduceAdd, Int.reduceSub, Int.reduceMod, Int.reducePow, Int.reduceNeg]); try with_reducible rfl
  try simp only [Act.put, List.setIfInBounds_toArray, List.set_cons_zero, List.set_cons_succ]
  refine l_cell MN4 0 rfl 5 (.tmp 35) _ rfl rfl rfl _ rfl _ rfl (by kernel_rfl) (by kernel_rfl) rfl rfl (netC (clr P 5 6) 40) (by kernel_rfl) _ rfl (fun s8 M8 => ?_)
  clear MN4
  try simp only [List.cons_append, List.nil_append, List.set_cons_zero, List.set_cons_succ] at M8
  try simp only [Act.put, List.setIfInBounds_toArray, List.set_cons_zero, List.set_cons_succ]
  refine wpList_nil ?_
  go_upto_region 9 with fail
  refine wp_region_lit ?_
  refine lv (by kernel_rfl) (some 36) rfl (v := ?_) ?_ ?_
  rotate_left
  · go_simp; (try simp only [IntKind.wrap_i64, Int.reduceAdd, Int.reduceSub, Int.reduceMod, Int.reducePow, Int.reduceNeg]); try with_reducible rfl
  try simp only [Act.put, List.setIfInBounds_toArray, List.set_cons_zero, List.set_cons_succ]
  refine lv (by kernel_rfl) (some 37) rfl (v := ?_) ?_ ?_
  rotate_left
  · go_simp; (try simp only [IntKind.wrap_i64, Int.reduceAdd, Int.reduceSub, Int.reduceMod, Int.reducePow, Int.reduceNeg]); try with_reducible rfl
  try simp only [Act.put, List.setIfInBounds_toArray, List.set_cons_zero, List.set_cons_succ]
  refine ly M8 (some 38) rfl (yi_cell 0 3 (.tmp 37) rfl rfl rfl _ rfl _ Try.underlying3 rfl) ?_
  try simp only [Act.put, List.setIfInBounds_toArray, List.set_cons_zero, List.set_cons_succ]
  refine lv (by kernel_rfl) (some 39) rfl (v := ?_) ?_ ?_
  rotate_left
  · go_simp; (try simp only [IntKind.wrap_i64, Int.reduceAdd, Int.reduceSub, Int.reduceMod, Int.reducePow, Int.reduceNeg]); try with_reducible rfl
  try simp only [Act.put, List.setIfInBounds_toArray, List.set_cons_zero, List.set_cons_succ]
  refine lv (by kernel_rfl) (some 40) rfl (v := ?_) ?_ ?_
  rotate_left
  · go_simp; (try simp only [IntKind.wrap_i64, Int.reduceAdd, Int.reduceSub, Int.reduceMod, Int.reducePow, Int.reduceNeg]); try with_reducible rfl
  try simp only [Act.put, List.setIfInBounds_toArray, List.set_cons_zero, List.set_cons_succ]
  refine lv (by kernel_rfl) (some 41) rfl (v := ?_) ?_ ?_
  rotate_left
  · go_simp; (try simp only [IntKind.wrap_i64, Int.reduceAdd, Int.reduceSub, Int.reduceMod, Int.reducePow, Int.reduceNeg]); try with_reducible rfl
  try simp only [Act.put, List.setIfInBounds_toArray, List.set_cons_zero, List.set_cons_succ]
  refine lv (by kernel_rfl) (some 42) rfl (v := ?_) ?_ ?_
  rotate_left
  · go_simp; (try simp only [IntKind.wrap_i64, Int.reduceAdd, Int.reduceSub, Int.reduceMod, Int.reducePow, Int.reduceNeg]); try with_reducible rfl
  try simp only [Act.put, List.setIfInBounds_toArray, List.set_cons_zero, List.set_cons_succ]
  refine lv (by kernel_rfl) (some 43) rfl (v := ?_) ?_ ?_
  rotate_left
  · go_simp; (try simp only [IntKind.wrap_i64, Int.reduceAdd, Int.reduceSub, Int.reduceMod, Int.reducePow, Int.reduceNeg]); try with_reducible rfl
  try simp only [Act.put, List.setIfInBounds_toArray, List.set_cons_zero, List.set_cons_succ]
  refine lv (by kernel_rfl) (some 44) rfl (v := ?_) ?_ ?_
  rotate_left
  · go_simp; (try simp only [IntKind.wrap_i64, Int.reduceAdd, Int.reduceSub, Int.reduceMod, Int.reducePow, Int.reduceNeg]); try with_reducible rfl
  try simp only [Act.put, List.setIfInBounds_toArray, List.set_cons_zero, List.set_cons_succ]
  refine wpList_nil ?_
  go_upto_region 6 with fail
  refine wp_region_lit ?_
  refine lv (by kernel_rfl) (some 22) rfl (v := ?_) ?_ ?_
  rotate_left
  · go_simp; (try simp only [IntKind.wrap_i64, Int.reduceAdd, Int.reduceSub, Int.reduceMod, Int.reducePow, Int.reduceNeg]); try with_reducible rfl
  try simp only [Act.put, List.setIfInBounds_toArray, List.set_cons_zero, List.set_cons_succ]
  refine lv (by kernel_rfl) (some 23) rfl (v := ?_) ?_ ?_
  rotate_left
  · go_simp; (try simp only [IntKind.wrap_i64, Int.reduceAdd, Int.reduceSub, Int.reduceMod, Int.reducePow, Int.reduceNeg]); try with_reducible rfl
  try simp only [Act.put, List.setIfInBounds_toArray, List.set_cons_zero, List.set_cons_succ]
  refine lv (by kernel_rfl) (some 11) rfl (v := ?_) ?_ ?_
  rotate_left
  · go_simp; (try simp only [IntKind.wrap_i64, Int.reduceAdd, Int.reduceSub, Int.reduceMod, Int.reducePow, Int.reduceNeg]); try with_reducible rfl
  try simp only [Act.put, List.setIfInBounds_toArray, List.set_cons_zero, List.set_cons_succ]
  refine wpList_nil ?_
  go_wp2_with fail
  have MN5 : Mem w _ [(w.heap.size, 26, (netC (clr P 5 6) 40)), (w.heap.size + 1, 23, (a16 (mix P X 5 6))), _] := M8
  clear M8
  rw [rounds_succ]
  go_upto_region 5 with fail
  refine wp_region_lit ?_
  refine lv (by kernel_rfl) (some 20) rfl (v := ?_) ?_ ?_
  rotate_left
  · go_simp; (try simp only [IntKind.wrap_i64, Int.reduceAdd, Int.reduceSub, Int.reduceMod, Int.reducePow, Int.reduceNeg]); try with_reducible rfl
  try simp only [Act.put, List.setIfInBounds_toArray, List.set_cons_zero, List.set_cons_succ]
  refine lv (by kernel_rfl) (some 21) rfl (v := ?_) ?_ ?_
  rotate_left
  · go_simp; (try simp only [IntKind.wrap_i64, Int.reduceAdd, Int.reduceSub, Int.reduceMod, Int.reducePow, Int.reduceNeg]); try with_reducible rfl
  try simp only [Act.put, List.setIfInBounds_toArray, List.set_cons_zero, List.set_cons_succ]
  refine wpList_nil ?_
  go_upto_region 7 with fail
  refine wp_region_lit ?_
  refine lv (by kernel_rfl) (some 24) rfl (v := ?_) ?_ ?_
  rotate_left
  · go_simp; (try simp only [IntKind.wrap_i64, Int.reduceAdd, Int.reduceSub, Int.reduceMod, Int.reducePow, Int.reduceNeg]); try with_reducible rfl
  try simp only [Act.put, List.setIfInBounds_toArray, List.set_cons_zero, List.set_cons_succ]
  refine lv (by kernel_rfl) (some 25) rfl (v := ?_) ?_ ?_
  rotate_left
  · go_simp; (try simp only [IntKind.wrap_i64, Int.reduceAdd, Int.reduceSub, Int.reduceMod, Int.reducePow, Int.reduceNeg]); try with_reducible rfl
  try simp only [Act.put, List.setIfInBounds_toArray, List.set_cons_zero, List.set_cons_succ]
  refine ly MN5 (some 26) rfl (yi_cell 0 3 (.tmp 25) rfl rfl rfl _ rfl _ Try.underlying3 rfl) ?_
  try simp only [Act.put, List.setIfInBounds_toArray, List.set_cons_zero, List.set_cons_succ]
  refine lv (by kernel_rfl) (some 27) rfl (v := ?_) ?_ ?_
  rotate_left
  · go_simp; (try simp only [IntKind.wrap_i64, Int.reduceAdd, Int.reduceSub, Int.reduceMod, Int.reducePow, Int.reduceNeg]); try with_reducible rfl
  try simp only [Act.put, List.setIfInBounds_toArray, List.set_cons_zero, List.set_cons_succ]
  refine lv (by kernel_rfl) (some 28) rfl (v := ?_) ?_ ?_
  rotate_left
  · go_simp; (try simp only [IntKind.wrap_i64, Int.reduceAdd, Int.reduceSub, Int.reduceMod, Int.reducePow, Int.reduceNeg]); try with_reducible rfl
  try simp only [Act.put, List.setIfInBounds_toArray, List.set_cons_zero, List.set_cons_succ]
  refine lv (by kernel_rfl) (some 29) rfl (v := ?_) ?_ ?_
  rotate_left
  · go_simp; (try simp only [IntKind.wrap_i64, Int.reduceAdd, Int.reduceSub, Int.reduceMod, Int.reducePow, Int.reduceNeg]); try with_reducible rfl
  try simp only [Act.put, List.setIfInBounds_toArray, List.set_cons_zero, List.set_cons_succ]
  with_reducible refine lu (by kernel_rfl) (some 30) rfl ?_
  try simp only [Act.put, List.setIfInBounds_toArray, List.set_cons_zero, List.set_cons_succ]
  with_reducible refine lu (by kernel_rfl) (some 31) rfl ?_
  try simp only [Act.put, List.setIfInBounds_toArray, List.set_cons_zero, List.set_cons_succ]
  refine lv (by kernel_rfl) (some 32) rfl (v := ?_) ?_ ?_
  rotate_left
  · go_simp; (try simp only [IntKind.wrap_i64, Int.reduceAdd, Int.reduceSub, Int.reduceMod, Int.reducePow, Int.reduceNeg]); try with_reducible rfl
  try simp only [Act.put, List.setIfInBounds_toArray, List.set_cons_zero, List.set_cons_succ]
  refine wpList_nil ?_
  go_upto_region 8 with fail
  refine wp_region_lit ?_
  refine lv (by kernel_rfl) (some 33) rfl (v := ?_) ?_ ?_
  rotate_left
  · go_simp; (try simp only [IntKind.wrap_i64, Int.reduceAdd, Int.reduceSub, Int.reduceMod, Int.reducePow, Int.reduceNeg]); try with_reducible rfl
  try simp only [Act.put, List.setIfInBounds_toArray, List.set_cons_zero, List.set_cons_succ]
  refine lv (by kernel_rfl) (some 34) rfl (v := ?_) ?_ ?_
  rotate_left
  · go_simp; (try simp only [IntKind.wrap_i64, Int.reduceAdd, Int.reduceSub, Int.reduceMod, Int.reducePow, Int.reduceNeg]); try with_reducible rfl
  try simp only [Act.put, List.setIfInBounds_toArray, List.set_cons_zero, List.set_cons_succ]
  refine lv (by kernel_rfl) (some 35) rfl (v := ?_) ?_ ?_
  rotate_left
  · go_simp; (try simp only [IntKind.wrap_i64, Int.reduceAdd, Int.reduceSub, Int.reduceMod, Int.reducePow, Int.reduceNeg]); try with_reducible rfl
  try simp only [Act.put, List.setIfInBounds_toArray, List.set_cons_zero, List.set_cons_succ]
  refine l_cell MN5 0 rfl 5 (.tmp 35) _ rfl rfl rfl _ rfl _ rfl (by kernel_rfl) (by kernel_rfl) rfl rfl (netC (clr P 5 7) 40) (by kernel_rfl) _ rfl (fun s9 M9 => ?_)
  clear MN5
  try simp only [List.cons_append, List.nil_append, List.set_cons_zero, List.set_cons_succ] at M9
  try simp only [Act.put, List.setIfInBounds_toArray, List.set_cons_zero, List.set_cons_succ]
  refine wpList_nil ?_
  go_upto_region 9 with fail
  refine wp_region_lit ?_
  refine lv (by kernel_rfl) (some 36) rfl (v := ?_) ?_ ?_
  rotate_left
  · go_simp; (try simp only [IntKind.wrap_i64, Int.reduceAdd, Int.reduceSub, Int.reduceMod, Int.reducePow, Int.reduceNeg]); try with_reducible rfl
  try simp only [Act.put, List.setIfInBounds_toArray, List.set_cons_zero, List.set_cons_succ]
  refine lv (by kernel_rfl) (some 37) rfl (v := ?_) ?_ ?_
  rotate_left
  · go_simp; (try simp only [IntKind.wrap_i64, Int.reduceAdd, Int.reduceSub, Int.reduceMod, Int.reducePow, Int.reduceNeg]); try with_reducible rfl
  try simp only [Act.put, List.setIfInBounds_toArray, List.set_cons_zero, List.set_cons_succ]
  refine ly M9 (some 38) rfl (yi_cell 0 3 (.tmp 37) rfl rfl rfl _ rfl _ Try.underlying3 rfl) ?_
  try simp only [Act.put, List.setIfInBounds_toArray, List.set_cons_zero, List.set_cons_succ]
  refine lv (by kernel_rfl) (some 39) rfl (v := ?_) ?_ ?_
  rotate_left
  · go_simp; (try simp only [IntKind.wrap_i64, Int.reduceAdd, Int.reduceSub, Int.reduceMod, Int.reducePow, Int.reduceNeg]); try with_reducible rfl
  try simp only [Act.put, List.setIfInBounds_toArray, List.set_cons_zero, List.set_cons_succ]
  refine lv (by kernel_rfl) (some 40) rfl (v := ?_) ?_ ?_
  rotate_left
  · go_simp; (try simp only [IntKind.wrap_i64, Int.reduceAdd, Int.reduceSub, Int.reduceMod, Int.reducePow, Int.reduceNeg]); try with_reducible rfl
  try simp only [Act.put, List.setIfInBounds_toArray, List.set_cons_zero, List.set_cons_succ]
  refine lv (by kernel_rfl) (some 41) rfl (v := ?_) ?_ ?_
  rotate_left
  · go_simp; (try simp only [IntKind.wrap_i64, Int.reduceAdd, Int.reduceSub, Int.reduceMod, Int.reducePow, Int.reduceNeg]); try with_reducible rfl
  try simp only [Act.put, List.setIfInBounds_toArray, List.set_cons_zero, List.set_cons_succ]
  refine lv (by kernel_rfl) (some 42) rfl (v := ?_) ?_ ?_
  rotate_left
  · go_simp; (try simp only [IntKind.wrap_i64, Int.reduceAdd, Int.reduceSub, Int.reduceMod, Int.reducePow, Int.reduceNeg]); try with_reducible rfl
  try simp only [Act.put, List.setIfInBounds_toArray, List.set_cons_zero, List.set_cons_succ]
  refine lv (by kernel_rfl) (some 43) rfl (v := ?_) ?_ ?_
  rotate_left
  · go_simp; (try simp only [IntKind.wrap_i64, Int.reduceAdd, Int.reduceSub, Int.reduceMod, Int.reducePow, Int.reduceNeg]); try with_reducible rfl
  try simp only [Act.put, List.setIfInBounds_toArray, List.set_cons_zero, List.set_cons_succ]
  refine lv (by kernel_rfl) (some 44) rfl (v := ?_) ?_ ?_
  rotate_left
  · go_simp; (try simp only [IntKind.wrap_i64, Int.reduceAdd, Int.reduceSub, Int.reduceMod, Int.reducePow, Int.reduceNeg]); try with_reducible rfl
  try simp only [Act.put, List.setIfInBounds_toArray, List.set_cons_zero, List.set_cons_succ]
  refine wpList_nil ?_
  go_upto_region 6 with fail
  refine wp_region_lit ?_
  refine lv (by kernel_rfl) (some 22) rfl (v := ?_) ?_ ?_
  rotate_left
  · go_simp; (try simp only [IntKind.wrap_i64, Int.reduceAdd, Int.reduceSub, Int.reduceMod, Int.reducePow, Int.reduceNeg]); try with_reducible rfl
  try simp only [Act.put, List.setIfInBounds_toArray, List.set_cons_zero, List.set_cons_succ]
  refine lv (by kernel_rfl) (some 23) rfl (v := ?_) ?_ ?_
  rotate_left
  · go_simp; (try simp only [IntKind.wrap_i64, Int.reduceAdd, Int.reduceSub, Int.reduceMod, Int.reducePow, Int.reduceNeg]); try with_reducible rfl
  try simp only [Act.put, List.setIfInBounds_toArray, List.set_cons_zero, List.set_cons_succ]
  refine lv (by kernel_rfl) (some 11) rfl (v := ?_) ?_ ?_
  rotate_left
  · go_simp; (try simp only [IntKind.wrap_i64, Int.reduceAdd, Int.reduceSub, Int.reduceMod, Int.reducePow, Int.reduceNeg]); try with_reducible rfl
  try simp only [Act.put, List.setIfInBounds_toArray, List.set_cons_zero, List.set_cons_succ]
  refine wpList_nil ?_
  go_wp2_with fail
  have MN6 : Mem w _ [(w.heap.size, 26, (netC (clr P 5 7) 40)), (w.heap.size + 1, 23, (a16 (mix P X 5 7))), _] := M9
  clear M9
  rw [rounds_succ]
  go_upto_region 5 with fail
  refine wp_region_lit ?_
  refine lv (by kernel_rfl) (some 20) rfl (v := ?_) ?_ ?_
  rotate_left
  · go_simp; (try simp only [IntKind.wrap_i64, Int.reduceAdd, Int.reduceSub, Int.reduceMod, Int.reducePow, Int.reduceNeg]); try with_reducible rfl
  try simp only [Act.put, List.setIfInBounds_toArray, List.set_cons_zero, List.set_cons_succ]
  refine lv (by kernel_rfl) (some 21) rfl (v := ?_) ?_ ?_
  rotate_left
  · go_simp; (try simp only [IntKind.wrap_i64, Int.reduceAdd, Int.reduceSub, Int.reduceMod, Int.reducePow, Int.reduceNeg]); try with_reducible rfl
  try simp only [Act.put, List.setIfInBounds_toArray, List.set_cons_zero, List.set_cons_succ]
  refine wpList_nil ?_
  go_upto_region 7 with fail
  refine wp_region_lit ?_
  refine lv (by kernel_rfl) (some 24) rfl (v := ?_) ?_ ?_
  rotate_left
  · go_simp; (try simp only [IntKind.wrap_i64, Int.reduceAdd, Int.reduceSub, Int.reduceMod, Int.reducePow, Int.reduceNeg]); try with_reducible rfl
  try simp only [Act.put, List.setIfInBounds_toArray, List.set_cons_zero, List.set_cons_succ]
  refine lv (by kernel_rfl) (some 25) rfl (v := ?_) ?_ ?_
  rotate_left
  · go_simp; (try simp only [IntKind.wrap_i64, Int.reduceAdd, Int.reduceSub, Int.reduceMod, Int.reducePow, Int.reduceNeg]); try with_reducible rfl
  try simp only [Act.put, List.setIfInBounds_toArray, List.set_cons_zero, List.set_cons_succ]
  refine ly MN6 (some 26) rfl (yi_cell 0 3 (.tmp 25) rfl rfl rfl _ rfl _ Try.underlying3 rfl) ?_
  try simp only [Act.put, List.setIfInBounds_toArray, List.set_cons_zero, List.set_cons_succ]
  refine lv (by kernel_rfl) (some 27) rfl (v := ?_) ?_ ?_
  rotate_left
  · go_simp; (try simp only [IntKind.wrap_i64, Int.reduceAdd, Int.reduceSub, Int.reduceMod, Int.reducePow, Int.reduceNeg]); try with_reducible rfl
  try simp only [Act.put, List.setIfInBounds_toArray, List.set_cons_zero, List.set_cons_succ]
  refine lv (by kernel_rfl) (some 28) rfl (v := ?_) ?_ ?_
  rotate_left
  · go_simp; (try simp only [IntKind.wrap_i64, Int.reduceAdd, Int.reduceSub, Int.reduceMod, Int.reducePow, Int.reduceNeg]); try with_reducible rfl
  try simp only [Act.put, List.setIfInBounds_toArray, List.set_cons_zero, List.set_cons_succ]
  refine lv (by kernel_rfl) (some 29) rfl (v := ?_) ?_ ?_
  rotate_left
  · go_simp; (try simp only [IntKind.wrap_i64, Int.reduceAdd, Int.reduceSub, Int.reduceMod, Int.reducePow, Int.reduceNeg]); try with_reducible rfl
  try simp only [Act.put, List.setIfInBounds_toArray, List.set_cons_zero, List.set_cons_succ]
  with_reducible refine lu (by kernel_rfl) (some 30) rfl ?_
  try simp only [Act.put, List.setIfInBounds_toArray, List.set_cons_zero, List.set_cons_succ]
  with_reducible refine lu (by kernel_rfl) (some 31) rfl ?_
  try simp only [Act.put, List.setIfInBounds_toArray, List.set_cons_zero, List.set_cons_succ]
  refine lv (by kernel_rfl) (some 32) rfl (v := ?_) ?_ ?_
  rotate_left
  · go_simp; (try simp only [IntKind.wrap_i64, Int.reduceAdd, Int.reduceSub, Int.reduceMod, Int.reducePow, Int.reduceNeg]); try with_reducible rfl
  try simp only [Act.put, List.setIfInBounds_toArray, List.set_cons_zero, List.set_cons_succ]
  refine wpList_nil ?_
  go_upto_region 8 with fail
  refine wp_region_lit ?_
  refine lv (by kernel_rfl) (some 33) rfl (v := ?_) ?_ ?_
  rotate_left
  · go_simp; (try simp only [IntKind.wrap_i64, Int.reduceAdd, Int.reduceSub, Int.reduceMod, Int.reducePow, Int.reduceNeg]); try with_reducible rfl
  try simp only [Act.put, List.setIfInBounds_toArray, List.set_cons_zero, List.set_cons_succ]
  refine lv (by kernel_rfl) (some 34) rfl (v := ?_) ?_ ?_
  rotate_left
  · go_simp; (try simp only [IntKind.wrap_i64, Int.reduceAdd, Int.reduceSub, Int.reduceMod, Int.reducePow, Int.reduceNeg]); try with_reducible rfl
  try simp only [Act.put, List.setIfInBounds_toArray, List.set_cons_zero, List.set_cons_succ]
  refine lv (by kernel_rfl) (some 35) rfl (v := ?_) ?_ ?_
  rotate_left
  · go_simp; (try simp only [IntKind.wrap_i64, Int.reduceAdd, Int.reduceSub, Int.reduceMod, Int.reducePow, Int.reduceNeg]); try with_reducible rfl
  try simp only [Act.put, List.setIfInBounds_toArray, List.set_cons_zero, List.set_cons_succ]
  refine l_cell MN6 0 rfl 5 (.tmp 35) _ rfl rfl rfl _ rfl _ rfl (by kernel_rfl) (by kernel_rfl) rfl rfl (netC (clr P 5 8) 40) (by kernel_rfl) _ rfl (fun s10 M10 => ?_)
  clear MN6
  try simp only [List.cons_append, List.nil_append, List.set_cons_zero, List.set_cons_succ] at M10
  try simp only [Act.put, List.setIfInBounds_toArray, List.set_cons_zero, List.set_cons_succ]
  refine wpList_nil ?_
  go_upto_region 9 with fail
  refine wp_region_lit ?_
  refine lv (by kernel_rfl) (some 36) rfl (v := ?_) ?_ ?_
  rotate_left
  · go_simp; (try simp only [IntKind.wrap_i64, Int.reduceAdd, Int.reduceSub, Int.reduceMod, Int.reducePow, Int.reduceNeg]); try with_reducible rfl
  try simp only [Act.put, List.setIfInBounds_toArray, List.set_cons_zero, List.set_cons_succ]
  refine lv (by kernel_rfl) (some 37) rfl (v := ?_) ?_ ?_
  rotate_left
  · go_simp; (try simp only [IntKind.wrap_i64, Int.reduceAdd, Int.reduceSub, Int.reduceMod, Int.reducePow, Int.reduceNeg]); try with_reducible rfl
  try simp only [Act.put, List.setIfInBounds_toArray, List.set_cons_zero, List.set_cons_succ]
  refine ly M10 (some 38) rfl (yi_cell 0 3 (.tmp 37) rfl rfl rfl _ rfl _ Try.underlying3 rfl) ?_
  try simp only [Act.put, List.setIfInBounds_toArray, List.set_cons_zero, List.set_cons_succ]
  refine lv (by kernel_rfl) (some 39) rfl (v := ?_) ?_ ?_
  rotate_left
  · go_simp; (try simp only [IntKind.wrap_i64, Int.reduceAdd, Int.reduceSub, Int.reduceMod, Int.reducePow, Int.reduceNeg]); try with_reducible rfl
  try simp only [Act.put, List.setIfInBounds_toArray, List.set_cons_zero, List.set_cons_succ]
  refine lv (by kernel_rfl) (some 40) rfl (v := ?_) ?_ ?_
  rotate_left
  · go_simp; (try simp only [IntKind.wrap_i64, Int.reduceAdd, Int.reduceSub, Int.reduceMod, Int.reducePow, Int.reduceNeg]); try with_reducible rfl
  try simp only [Act.put, List.setIfInBounds_toArray, List.set_cons_zero, List.set_cons_succ]
  refine lv (by kernel_rfl) (some 41) rfl (v := ?_) ?_ ?_
  rotate_left
  · go_simp; (try simp only [IntKind.wrap_i64, Int.reduceAdd, Int.reduceSub, Int.reduceMod, Int.reducePow, Int.reduceNeg]); try with_reducible rfl
  try simp only [Act.put, List.setIfInBounds_toArray, List.set_cons_zero, List.set_cons_succ]
  refine lv (by kernel_rfl) (some 42) rfl (v := ?_) ?_ ?_
  rotate_left
  · go_simp; (try simp only [IntKind.wrap_i64, Int.reduceAdd, Int.reduceSub, Int.reduceMod, Int.reducePow, Int.reduceNeg]); try with_reducible rfl
  try simp only [Act.put, List.setIfInBounds_toArray, List.set_cons_zero, List.set_cons_succ]
  refine lv (by kernel_rfl) (some 43) rfl (v := ?_) ?_ ?_
  rotate_left
  · go_simp; (try simp only [IntKind.wrap_i64, Int.reduceAdd, Int.reduceSub, Int.reduceMod, Int.reducePow, Int.reduceNeg]); try with_reducible rfl
  try simp only [Act.put, List.setIfInBounds_toArray, List.set_cons_zero, List.set_cons_succ]
  refine lv (by kernel_rfl) (some 44) rfl (v := ?_) ?_ ?_
  rotate_left
  · go_simp; (try simp only [IntKind.wrap_i64, Int.reduceAdd, Int.reduceSub, Int.reduceMod, Int.reducePow, Int.reduceNeg]); try with_reducible rfl
  try simp only [Act.put, List.setIfInBounds_toArray, List.set_cons_zero, List.set_cons_succ]
  refine wpList_nil ?_
  go_upto_region 6 with fail
  refine wp_region_lit ?_
  refine lv (by kernel_rfl) (some 22) rfl (v := ?_) ?_ ?_
  rotate_left
  · go_simp; (try simp only [IntKind.wrap_i64, Int.reduceAdd, Int.reduceSub, Int.reduceMod, Int.reducePow, Int.reduceNeg]); try with_reducible rfl
  try simp only [Act.put, List.setIfInBounds_toArray, List.set_cons_zero, List.set_cons_succ]
  refine lv (by kernel_rfl) (some 23) rfl (v := ?_) ?_ ?_
  rotate_left
  · go_simp; (try simp only [IntKind.wrap_i64, Int.reduceAdd, Int.reduceSub, Int.reduceMod, Int.reducePow, Int.reduceNeg]); try with_reducible rfl
  try simp only [Act.put, List.setIfInBounds_toArray, List.set_cons_zero, List.set_cons_succ]
  refine lv (by kernel_rfl) (some 11) rfl (v := ?_) ?_ ?_
  rotate_left
  · go_simp; (try simp only [IntKind.wrap_i64, Int.reduceAdd, Int.reduceSub, Int.reduceMod, Int.reducePow, Int.reduceNeg]); try with_reducible rfl
  try simp only [Act.put, List.setIfInBounds_toArray, List.set_cons_zero, List.set_cons_succ]
  refine wpList_nil ?_
  go_wp2_with fail
  have MN7 : Mem w _ [(w.heap.size, 26, (netC (clr P 5 8) 40)), (w.heap.size + 1, 23, (a16 (mix P X 5 8))), _] := M10
  clear M10
  rw [rounds_succ]
  go_upto_region 5 with fail
  refine wp_region_lit ?_
  refine lv (by kernel_rfl) (some 20) rfl (v := ?_) ?_ ?_
  rotate_left
  · go_simp; (try simp only [IntKind.wrap_i64, Int.reduceAdd, Int.reduceSub, Int.reduceMod, Int.reducePow, Int.reduceNeg]); try with_reducible rfl
  try simp only [Act.put, List.setIfInBounds_toArray, List.set_cons_zero, List.set_cons_succ]
  refine lv (by kernel_rfl) (some 21) rfl (v := ?_) ?_ ?_
  rotate_left
  · go_simp; (try simp only [IntKind.wrap_i64, Int.reduceAdd, Int.reduceSub, Int.reduceMod, Int.reducePow, Int.reduceNeg]); try with_reducible rfl
  try simp only [Act.put, List.setIfInBounds_toArray, List.set_cons_zero, List.set_cons_succ]
  refine wpList_nil ?_
  go_upto_region 7 with fail
  refine wp_region_lit ?_
  refine lv (by kernel_rfl) (some 24) rfl (v := ?_) ?_ ?_
  rotate_left
  · go_simp; (try simp only [IntKind.wrap_i64, Int.reduceAdd, Int.reduceSub, Int.reduceMod, Int.reducePow, Int.reduceNeg]); try with_reducible rfl
  try simp only [Act.put, List.setIfInBounds_toArray, List.set_cons_zero, List.set_cons_succ]
  refine lv (by kernel_rfl) (some 25) rfl (v := ?_) ?_ ?_
  rotate_left
  · go_simp; (try simp only [IntKind.wrap_i64, Int.reduceAdd, Int.reduceSub, Int.reduceMod, Int.reducePow, Int.reduceNeg]); try with_reducible rfl
  try simp only [Act.put, List.setIfInBounds_toArray, List.set_cons_zero, List.set_cons_succ]
  refine ly MN7 (some 26) rfl (yi_cell 0 3 (.tmp 25) rfl rfl rfl _ rfl _ Try.underlying3 rfl) ?_
  try simp only [Act.put, List.setIfInBounds_toArray, List.set_cons_zero, List.set_cons_succ]
  refine lv (by kernel_rfl) (some 27) rfl (v := ?_) ?_ ?_
  rotate_left
  · go_simp; (try simp only [IntKind.wrap_i64, Int.reduceAdd, Int.reduceSub, Int.reduceMod, Int.reducePow, Int.reduceNeg]); try with_reducible rfl
  try simp only [Act.put, List.setIfInBounds_toArray, List.set_cons_zero, List.set_cons_succ]
  refine lv (by kernel_rfl) (some 28) rfl (v := ?_) ?_ ?_
  rotate_left
  · go_simp; (try simp only [IntKind.wrap_i64, Int.reduceAdd, Int.reduceSub, Int.reduceMod, Int.reducePow, Int.reduceNeg]); try with_reducible rfl
  try simp only [Act.put, List.setIfInBounds_toArray, List.set_cons_zero, List.set_cons_succ]
  refine lv (by kernel_rfl) (some 29) rfl (v := ?_) ?_ ?_
  rotate_left
  · go_simp; (try simp only [IntKind.wrap_i64, Int.reduceAdd, Int.reduceSub, Int.reduceMod, Int.reducePow, Int.reduceNeg]); try with_reducible rfl
  try simp only [Act.put, List.setIfInBounds_toArray, List.set_cons_zero, List.set_cons_succ]
  with_reducible refine lu (by kernel_rfl) (some 30) rfl ?_
  try simp only [Act.put, List.setIfInBounds_toArray, List.set_cons_zero, List.set_cons_succ]
  with_reducible refine lu (by kernel_rfl) (some 31) rfl ?_
  try simp only [Act.put, List.setIfInBounds_toArray, List.set_cons_zero, List.set_cons_succ]
  refine lv (by kernel_rfl) (some 32) rfl (v := ?_) ?_ ?_
  rotate_left
  · go_simp; (try simp only [IntKind.wrap_i64, Int.reduceAdd, Int.reduceSub, Int.reduceMod, Int.reducePow, Int.reduceNeg]); try with_reducible rfl
  try simp only [Act.put, List.setIfInBounds_toArray, List.set_cons_zero, List.set_cons_succ]
  refine wpList_nil ?_
  go_upto_region 8 with fail
  refine wp_region_lit ?_
  refine lv (by kernel_rfl) (some 33) rfl (v := ?_) ?_ ?_
  rotate_left
  · go_simp; (try simp only [IntKind.wrap_i64, Int.reduceAdd, Int.reduceSub, Int.reduceMod, Int.reducePow, Int.reduceNeg]); try with_reducible rfl
  try simp only [Act.put, List.setIfInBounds_toArray, List.set_cons_zero, List.set_cons_succ]
  refine lv (by kernel_rfl) (some 34) rfl (v := ?_) ?_ ?_
  rotate_left
  · go_simp; (try simp only [IntKind.wrap_i64, Int.reduceAdd, Int.reduceSub, Int.reduceMod, Int.reducePow, Int.reduceNeg]); try with_reducible rfl
  try simp only [Act.put, List.setIfInBounds_toArray, List.set_cons_zero, List.set_cons_succ]
  refine lv (by kernel_rfl) (some 35) rfl (v := ?_) ?_ ?_
  rotate_left
  · go_simp; (try simp only [IntKind.wrap_i64, Int.reduceAdd, Int.reduceSub, Int.reduceMod, Int.reducePow, Int.reduceNeg]); try with_reducible rfl
  try simp only [Act.put, List.setIfInBounds_toArray, List.set_cons_zero, List.set_cons_succ]
  refine l_cell MN7 0 rfl 5 (.tmp 35) _ rfl rfl rfl _ rfl _ rfl (by kernel_rfl) (by kernel_rfl) rfl rfl (netC (clr P 5 9) 40) (by kernel_rfl) _ rfl (fun s11 M11 => ?_)
  clear MN7
  try simp only [List.cons_append, List.nil_append, List.set_cons_zero, List.set_cons_succ] at M11
  try simp only [Act.put, List.setIfInBounds_toArray, List.set_cons_zero, List.set_cons_succ]
  refine wpList_nil ?_
  go_upto_region 9 with fail
  refine wp_region_lit ?_
  refine lv (by kernel_rfl) (some 36) rfl (v := ?_) ?_ ?_
  rotate_left
  · go_simp; (try simp only [IntKind.wrap_i64, Int.reduceAdd, Int.reduceSub, Int.reduceMod, Int.reducePow, Int.reduceNeg]); try with_reducible rfl
  try simp only [Act.put, List.setIfInBounds_toArray, List.set_cons_zero, List.set_cons_succ]
  refine lv (by kernel_rfl) (some 37) rfl (v := ?_) ?_ ?_
  rotate_left
  · go_simp; (try simp only [IntKind.wrap_i64, Int.reduceAdd, Int.reduceSub, Int.reduceMod, Int.reducePow, Int.reduceNeg]); try with_reducible rfl
  try simp only [Act.put, List.setIfInBounds_toArray, List.set_cons_zero, List.set_cons_succ]
  refine ly M11 (some 38) rfl (yi_cell 0 3 (.tmp 37) rfl rfl rfl _ rfl _ Try.underlying3 rfl) ?_
  try simp only [Act.put, List.setIfInBounds_toArray, List.set_cons_zero, List.set_cons_succ]
  refine lv (by kernel_rfl) (some 39) rfl (v := ?_) ?_ ?_
  rotate_left
  · go_simp; (try simp only [IntKind.wrap_i64, Int.reduceAdd, Int.reduceSub, Int.reduceMod, Int.reducePow, Int.reduceNeg]); try with_reducible rfl
  try simp only [Act.put, List.setIfInBounds_toArray, List.set_cons_zero, List.set_cons_succ]
  refine lv (by kernel_rfl) (some 40) rfl (v := ?_) ?_ ?_
  rotate_left
  · go_simp; (try simp only [IntKind.wrap_i64, Int.reduceAdd, Int.reduceSub, Int.reduceMod, Int.reducePow, Int.reduceNeg]); try with_reducible rfl
  try simp only [Act.put, List.setIfInBounds_toArray, List.set_cons_zero, List.set_cons_succ]
  refine lv (by kernel_rfl) (some 41) rfl (v := ?_) ?_ ?_
  rotate_left
  · go_simp; (try simp only [IntKind.wrap_i64, Int.reduceAdd, Int.reduceSub, Int.reduceMod, Int.reducePow, Int.reduceNeg]); try with_reducible rfl
  try simp only [Act.put, List.setIfInBounds_toArray, List.set_cons_zero, List.set_cons_succ]
  refine lv (by kernel_rfl) (some 42) rfl (v := ?_) ?_ ?_
  rotate_left
  · go_simp; (try simp only [IntKind.wrap_i64, Int.reduceAdd, Int.reduceSub, Int.reduceMod, Int.reducePow, Int.reduceNeg]); try with_reducible rfl
  try simp only [Act.put, List.setIfInBounds_toArray, List.set_cons_zero, List.set_cons_succ]
  refine lv (by kernel_rfl) (some 43) rfl (v := ?_) ?_ ?_
  rotate_left
  · go_simp; (try simp only [IntKind.wrap_i64, Int.reduceAdd, Int.reduceSub, Int.reduceMod, Int.reducePow, Int.reduceNeg]); try with_reducible rfl
  try simp only [Act.put, List.setIfInBounds_toArray, List.set_cons_zero, List.set_cons_succ]
  refine lv (by kernel_rfl) (some 44) rfl (v := ?_) ?_ ?_
  rotate_left
  · go_simp; (try simp only [IntKind.wrap_i64, Int.reduceAdd, Int.reduceSub, Int.reduceMod, Int.reducePow, Int.reduceNeg]); try with_reducible rfl
  try simp only [Act.put, List.setIfInBounds_toArray, List.set_cons_zero, List.set_cons_succ]
  refine wpList_nil ?_
  go_upto_region 10 with fail
  refine wp_region_lit ?_
  refine lv (by kernel_rfl) (some 45) rfl (v := ?_) ?_ ?_
  rotate_left
  · go_simp; (try simp only [IntKind.wrap_i64, Int.reduceAdd, Int.reduceSub, Int.reduceMod, Int.reducePow, Int.reduceNeg]); try with_reducible rfl
  try simp only [Act.put, List.setIfInBounds_toArray, List.set_cons_zero, List.set_cons_succ]
  refine lv (by kernel_rfl) (some 46) rfl (v := ?_) ?_ ?_
  rotate_left
  · go_simp; (try simp only [IntKind.wrap_i64, Int.reduceAdd, Int.reduceSub, Int.reduceMod, Int.reducePow, Int.reduceNeg]); try with_reducible rfl
  try simp only [Act.put, List.setIfInBounds_toArray, List.set_cons_zero, List.set_cons_succ]
  refine lv (by kernel_rfl) (some 47) rfl (v := ?_) ?_ ?_
  rotate_left
  · go_simp; (try simp only [IntKind.wrap_i64, Int.reduceAdd, Int.reduceSub, Int.reduceMod, Int.reducePow, Int.reduceNeg]); try with_reducible rfl
  try simp only [Act.put, List.setIfInBounds_toArray, List.set_cons_zero, List.set_cons_succ]
  refine lv (by kernel_rfl) (some 48) rfl (v := ?_) ?_ ?_
  rotate_left
  · go_simp; (try simp only [IntKind.wrap_i64, Int.reduceAdd, Int.reduceSub, Int.reduceMod, Int.reducePow, Int.reduceNeg]); try with_reducible rfl
  try simp only [Act.put, List.setIfInBounds_toArray, List.set_cons_zero, List.set_cons_succ]
  refine ly M11 (some 49) rfl (yi_cell 0 5 (.tmp 48) rfl rfl rfl _ rfl _ Try.underlying5 rfl) ?_
  try simp only [Act.put, List.setIfInBounds_toArray, List.set_cons_zero, List.set_cons_succ]
  refine lv (by kernel_rfl) (some 50) rfl (v := ?_) ?_ ?_
  rotate_left
  · go_simp; (try simp only [IntKind.wrap_i64, Int.reduceAdd, Int.reduceSub, Int.reduceMod, Int.reducePow, Int.reduceNeg]); try with_reducible rfl
  try simp only [Act.put, List.setIfInBounds_toArray, List.set_cons_zero, List.set_cons_succ]
  refine l_cell M11 1 rfl 5 (.tmp 50) _ rfl rfl rfl _ rfl _ rfl (by kernel_rfl) (by kernel_rfl) rfl rfl (a16 (mix P X 5 9)) (by kernel_rfl) _ rfl (fun s12 M12 => ?_)
  clear M11
  try simp only [List.cons_append, List.nil_append, List.set_cons_zero, List.set_cons_succ] at M12
  try simp only [Act.put, List.setIfInBounds_toArray, List.set_cons_zero, List.set_cons_succ]
  refine wpList_nil ?_
  go_upto_region 6 with fail
  refine wp_region_lit ?_
  refine lv (by kernel_rfl) (some 22) rfl (v := ?_) ?_ ?_
  rotate_left
  · go_simp; (try simp only [IntKind.wrap_i64, Int.reduceAdd, Int.reduceSub, Int.reduceMod, Int.reducePow, Int.reduceNeg]); try with_reducible rfl
  try simp only [Act.put, List.setIfInBounds_toArray, List.set_cons_zero, List.set_cons_succ]
  refine lv (by kernel_rfl) (some 23) rfl (v := ?_) ?_ ?_
  rotate_left
  · go_simp; (try simp only [IntKind.wrap_i64, Int.reduceAdd, Int.reduceSub, Int.reduceMod, Int.reducePow, Int.reduceNeg]); try with_reducible rfl
  try simp only [Act.put, List.setIfInBounds_toArray, List.set_cons_zero, List.set_cons_succ]
  refine lv (by kernel_rfl) (some 11) rfl (v := ?_) ?_ ?_
  rotate_left
  · go_simp; (try simp only [IntKind.wrap_i64, Int.reduceAdd, Int.reduceSub, Int.reduceMod, Int.reducePow, Int.reduceNeg]); try with_reducible rfl
  try simp only [Act.put, List.setIfInBounds_toArray, List.set_cons_zero, List.set_cons_succ]
  refine wpList_nil ?_
  go_wp2_with fail
  have MN8 : Mem w _ [(w.heap.size, 26, (netC (clr P 5 9) 40)), (w.heap.size + 1, 23, (a16 (mix P X 5 9))), _] := M12
  clear M12
  rw [rounds_succ]
  go_upto_region 5 with fail
  refine wp_region_lit ?_
  refine lv (by kernel_rfl) (some 20) rfl (v := ?_) ?_ ?_
  rotate_left
  · go_simp; (try simp only [IntKind.wrap_i64, Int.reduceAdd, Int.reduceSub, Int.reduceMod, Int.reducePow, Int.reduceNeg]); try with_reducible rfl
  try simp only [Act.put, List.setIfInBounds_toArray, List.set_cons_zero, List.set_cons_succ]
  refine lv (by kernel_rfl) (some 21) rfl (v := ?_) ?_ ?_
  rotate_left
  · go_simp; (try simp only [IntKind.wrap_i64, Int.reduceAdd, Int.reduceSub, Int.reduceMod, Int.reducePow, Int.reduceNeg]); try with_reducible rfl
  try simp only [Act.put, List.setIfInBounds_toArray, List.set_cons_zero, List.set_cons_succ]
  refine wpList_nil ?_
  go_upto_region 7 with fail
  refine wp_region_lit ?_
  refine lv (by kernel_rfl) (some 24) rfl (v := ?_) ?_ ?_
  rotate_left
  · go_simp; (try simp only [IntKind.wrap_i64, Int.reduceAdd, Int.reduceSub, Int.reduceMod, Int.reducePow, Int.reduceNeg]); try with_reducible rfl
  try simp only [Act.put, List.setIfInBounds_toArray, List.set_cons_zero, List.set_cons_succ]
  refine lv (by kernel_rfl) (some 25) rfl (v := ?_) ?_ ?_
  rotate_left
  · go_simp; (try simp only [IntKind.wrap_i64, Int.reduceAdd, Int.reduceSub, Int.reduceMod, Int.reducePow, Int.reduceNeg]); try with_reducible rfl
  try simp only [Act.put, List.setIfInBounds_toArray, List.set_cons_zero, List.set_cons_succ]
  refine ly MN8 (some 26) rfl (yi_cell 0 3 (.tmp 25) rfl rfl rfl _ rfl _ Try.underlying3 rfl) ?_
  try simp only [Act.put, List.setIfInBounds_toArray, List.set_cons_zero, List.set_cons_succ]
  refine lv (by kernel_rfl) (some 27) rfl (v := ?_) ?_ ?_
  rotate_left
  · go_simp; (try simp only [IntKind.wrap_i64, Int.reduceAdd, Int.reduceSub, Int.reduceMod, Int.reducePow, Int.reduceNeg]); try with_reducible rfl
  try simp only [Act.put, List.setIfInBounds_toArray, List.set_cons_zero, List.set_cons_succ]
  refine lv (by kernel_rfl) (some 28) rfl (v := ?_) ?_ ?_
  rotate_left
  · go_simp; (try simp only [IntKind.wrap_i64, Int.reduceAdd, Int.reduceSub, Int.reduceMod, Int.reducePow, Int.reduceNeg]); try with_reducible rfl
  try simp only [Act.put, List.setIfInBounds_toArray, List.set_cons_zero, List.set_cons_succ]
  refine lv (by kernel_rfl) (some 29) rfl (v := ?_) ?_ ?_
  rotate_left
  · go_simp; (try simp only [IntKind.wrap_i64, Int.reduceAdd, Int.reduceSub, Int.reduceMod, Int.reducePow, Int.reduceNeg]); try with_reducible rfl
  try simp only [Act.put, List.setIfInBounds_toArray, List.set_cons_zero, List.set_cons_succ]
  with_reducible refine lu (by kernel_rfl) (some 30) rfl ?_
  try simp only [Act.put, List.setIfInBounds_toArray, List.set_cons_zero, List.set_cons_succ]
  with_reducible refine lu (by kernel_rfl) (some 31) rfl ?_
  try simp only [Act.put, List.setIfInBounds_toArray, List.set_cons_zero, List.set_cons_succ]
  refine lv (by kernel_rfl) (some 32) rfl (v := ?_) ?_ ?_
  rotate_left
  · go_simp; (try simp only [IntKind.wrap_i64, Int.reduceAdd, Int.reduceSub, Int.reduceMod, Int.reducePow, Int.reduceNeg]); try with_reducible rfl
  try simp only [Act.put, List.setIfInBounds_toArray, List.set_cons_zero, List.set_cons_succ]
  refine wpList_nil ?_
  go_upto_region 8 with fail
  refine wp_region_lit ?_
  refine lv (by kernel_rfl) (some 33) rfl (v := ?_) ?_ ?_
  rotate_left
  · go_simp; (try simp only [IntKind.wrap_i64, Int.reduceAdd, Int.reduceSub, Int.reduceMod, Int.reducePow, Int.reduceNeg]); try with_reducible rfl
  try simp only [Act.put, List.setIfInBounds_toArray, List.set_cons_zero, List.set_cons_succ]
  refine lv (by kernel_rfl) (some 34) rfl (v := ?_) ?_ ?_
  rotate_left
  · go_simp; (try simp only [IntKind.wrap_i64, Int.reduceAdd, Int.reduceSub, Int.reduceMod, Int.reducePow, Int.reduceNeg]); try with_reducible rfl
  try simp only [Act.put, List.setIfInBounds_toArray, List.set_cons_zero, List.set_cons_succ]
  refine lv (by kernel_rfl) (some 35) rfl (v := ?_) ?_ ?_
  rotate_left
  · go_simp; (try simp only [IntKind.wrap_i64, Int.reduceAdd, Int.reduceSub, Int.reduceMod, Int.reducePow, Int.reduceNeg]); try with_reducible rfl
  try simp only [Act.put, List.setIfInBounds_toArray, List.set_cons_zero, List.set_cons_succ]
  refine l_cell MN8 0 rfl 5 (.tmp 35) _ rfl rfl rfl _ rfl _ rfl (by kernel_rfl) (by kernel_rfl) rfl rfl (netC (clr P 5 10) 40) (by kernel_rfl) _ rfl (fun s13 M13 => ?_)
  clear MN8
  try simp only [List.cons_append, List.nil_append, List.set_cons_zero, List.set_cons_succ] at M13
  try simp only [Act.put, List.setIfInBounds_toArray, List.set_cons_zero, List.set_cons_succ]
  refine wpList_nil ?_
  go_upto_region 9 with fail
  refine wp_region_lit ?_
  refine lv (by kernel_rfl) (some 36) rfl (v := ?_) ?_ ?_
  rotate_left
  · go_simp; (try simp only [IntKind.wrap_i64, Int.reduceAdd, Int.reduceSub, Int.reduceMod, Int.reducePow, Int.reduceNeg]); try with_reducible rfl
  try simp only [Act.put, List.setIfInBounds_toArray, List.set_cons_zero, List.set_cons_succ]
  refine lv (by kernel_rfl) (some 37) rfl (v := ?_) ?_ ?_
  rotate_left
  · go_simp; (try simp only [IntKind.wrap_i64, Int.reduceAdd, Int.reduceSub, Int.reduceMod, Int.reducePow, Int.reduceNeg]); try with_reducible rfl
  try simp only [Act.put, List.setIfInBounds_toArray, List.set_cons_zero, List.set_cons_succ]
  refine ly M13 (some 38) rfl (yi_cell 0 3 (.tmp 37) rfl rfl rfl _ rfl _ Try.underlying3 rfl) ?_
  try simp only [Act.put, List.setIfInBounds_toArray, List.set_cons_zero, List.set_cons_succ]
  refine lv (by kernel_rfl) (some 39) rfl (v := ?_) ?_ ?_
  rotate_left
  · go_simp; (try simp only [IntKind.wrap_i64, Int.reduceAdd, Int.reduceSub, Int.reduceMod, Int.reducePow, Int.reduceNeg]); try with_reducible rfl
  try simp only [Act.put, List.setIfInBounds_toArray, List.set_cons_zero, List.set_cons_succ]
  refine lv (by kernel_rfl) (some 40) rfl (v := ?_) ?_ ?_
  rotate_left
  · go_simp; (try simp only [IntKind.wrap_i64, Int.reduceAdd, Int.reduceSub, Int.reduceMod, Int.reducePow, Int.reduceNeg]); try with_reducible rfl
  try simp only [Act.put, List.setIfInBounds_toArray, List.set_cons_zero, List.set_cons_succ]
  refine lv (by kernel_rfl) (some 41) rfl (v := ?_) ?_ ?_
  rotate_left
  · go_simp; (try simp only [IntKind.wrap_i64, Int.reduceAdd, Int.reduceSub, Int.reduceMod, Int.reducePow, Int.reduceNeg]); try with_reducible rfl
  try simp only [Act.put, List.setIfInBounds_toArray, List.set_cons_zero, List.set_cons_succ]
  refine lv (by kernel_rfl) (some 42) rfl (v := ?_) ?_ ?_
  rotate_left
  · go_simp; (try simp only [IntKind.wrap_i64, Int.reduceAdd, Int.reduceSub, Int.reduceMod, Int.reducePow, Int.reduceNeg]); try with_reducible rfl
  try simp only [Act.put, List.setIfInBounds_toArray, List.set_cons_zero, List.set_cons_succ]
  refine lv (by kernel_rfl) (some 43) rfl (v := ?_) ?_ ?_
  rotate_left
  · go_simp; (try simp only [IntKind.wrap_i64, Int.reduceAdd, Int.reduceSub, Int.reduceMod, Int.reducePow, Int.reduceNeg]); try with_reducible rfl
  try simp only [Act.put, List.setIfInBounds_toArray, List.set_cons_zero, List.set_cons_succ]
  refine lv (by kernel_rfl) (some 44) rfl (v := ?_) ?_ ?_
  rotate_left
  · go_simp; (try simp only [IntKind.wrap_i64, Int.reduceAdd, Int.reduceSub, Int.reduceMod, Int.reducePow, Int.reduceNeg]); try with_reducible rfl
  try simp only [Act.put, List.setIfInBounds_toArray, List.set_cons_zero, List.set_cons_succ]
  refine wpList_nil ?_
  go_upto_region 6 with fail
  refine wp_region_lit ?_
  refine lv (by kernel_rfl) (some 22) rfl (v := ?_) ?_ ?_
  rotate_left
  · go_simp; (try simp only [IntKind.wrap_i64, Int.reduceAdd, Int.reduceSub, Int.reduceMod, Int.reducePow, Int.reduceNeg]); try with_reducible rfl
  try simp only [Act.put, List.setIfInBounds_toArray, List.set_cons_zero, List.set_cons_succ]
  refine lv (by kernel_rfl) (some 23) rfl (v := ?_) ?_ ?_
  rotate_left
  · go_simp; (try simp only [IntKind.wrap_i64, Int.reduceAdd, Int.reduceSub, Int.reduceMod, Int.reducePow, Int.reduceNeg]); try with_reducible rfl
  try simp only [Act.put, List.setIfInBounds_toArray, List.set_cons_zero, List.set_cons_succ]
  refine lv (by kernel_rfl) (some 11) rfl (v := ?_) ?_ ?_
  rotate_left
  · go_simp; (try simp only [IntKind.wrap_i64, Int.reduceAdd, Int.reduceSub, Int.reduceMod, Int.reducePow, Int.reduceNeg]); try with_reducible rfl
  try simp only [Act.put, List.setIfInBounds_toArray, List.set_cons_zero, List.set_cons_succ]
  refine wpList_nil ?_
  go_wp2_with fail
  have MN9 : Mem w _ [(w.heap.size, 26, (netC (clr P 5 10) 40)), (w.heap.size + 1, 23, (a16 (mix P X 5 10))), _] := M13
  clear M13
  rw [rounds_succ]
  go_upto_region 5 with fail
  refine wp_region_lit ?_
  refine lv (by kernel_rfl) (some 20) rfl (v := ?_) ?_ ?_
  rotate_left
  · go_simp; (try simp only [IntKind.wrap_i64, Int.reduceAdd, Int.reduceSub, Int.reduceMod, Int.reducePow, Int.reduceNeg]); try with_reducible rfl
  try simp only [Act.put, List.setIfInBounds_toArray, List.set_cons_zero, List.set_cons_succ]
  refine lv (by kernel_rfl) (some 21) rfl (v := ?_) ?_ ?_
  rotate_left
  · go_simp; (try simp only [IntKind.wrap_i64, Int.reduceAdd, Int.reduceSub, Int.reduceMod, Int.reducePow, Int.reduceNeg]); try with_reducible rfl
  try simp only [Act.put, List.setIfInBounds_toArray, List.set_cons_zero, List.set_cons_succ]
  refine wpList_nil ?_
  go_upto_region 7 with fail
  refine wp_region_lit ?_
  refine lv (by kernel_rfl) (some 24) rfl (v := ?_) ?_ ?_
  rotate_left
  · go_simp; (try simp only [IntKind.wrap_i64, Int.reduceAdd, Int.reduceSub, Int.reduceMod, Int.reducePow, Int.reduceNeg]); try with_reducible rfl
  try simp only [Act.put, List.setIfInBounds_toArray, List.set_cons_zero, List.set_cons_succ]
  refine lv (by kernel_rfl) (some 25) rfl (v := ?_) ?_ ?_
  rotate_left
  · go_simp; (try simp only [IntKind.wrap_i64, Int.reduceAdd, Int.reduceSub, Int.reduceMod, Int.reducePow, Int.reduceNeg]); try with_reducible rfl
  try simp only [Act.put, List.setIfInBounds_toArray, List.set_cons_zero, List.set_cons_succ]
  refine ly MN9 (some 26) rfl (yi_cell 0 3 (.tmp 25) rfl rfl rfl _ rfl _ Try.underlying3 rfl) ?_
  try simp only [Act.put, List.setIfInBounds_toArray, List.set_cons_zero, List.set_cons_succ]
  refine lv (by kernel_rfl) (some 27) rfl (v := ?_) ?_ ?_
  rotate_left
  · go_simp; (try simp only [IntKind.wrap_i64, Int.reduceAdd, Int.reduceSub, Int.reduceMod, Int.reducePow, Int.reduceNeg]); try with_reducible rfl
  try simp only [Act.put, List.setIfInBounds_toArray, List.set_cons_zero, List.set_cons_succ]
  refine lv (by kernel_rfl) (some 28) rfl (v := ?_) ?_ ?_
  rotate_left
  · go_simp; (try simp only [IntKind.wrap_i64, Int.reduceAdd, Int.reduceSub, Int.reduceMod, Int.reducePow, Int.reduceNeg]); try with_reducible rfl
  try simp only [Act.put, List.setIfInBounds_toArray, List.set_cons_zero, List.set_cons_succ]
  refine lv (by kernel_rfl) (some 29) rfl (v := ?_) ?_ ?_
  rotate_left
  · go_simp; (try simp only [IntKind.wrap_i64, Int.reduceAdd, Int.reduceSub, Int.reduceMod, Int.reducePow, Int.reduceNeg]); try with_reducible rfl
  try simp only [Act.put, List.setIfInBounds_toArray, List.set_cons_zero, List.set_cons_succ]
  with_reducible refine lu (by kernel_rfl) (some 30) rfl ?_
  try simp only [Act.put, List.setIfInBounds_toArray, List.set_cons_zero, List.set_cons_succ]
  with_reducible refine lu (by kernel_rfl) (some 31) rfl ?_
  try simp only [Act.put, List.setIfInBounds_toArray, List.set_cons_zero, List.set_cons_succ]
  refine lv (by kernel_rfl) (some 32) rfl (v := ?_) ?_ ?_
  rotate_left
  · go_simp; (try simp only [IntKind.wrap_i64, Int.reduceAdd, Int.reduceSub, Int.reduceMod, Int.reducePow, Int.reduceNeg]); try with_reducible rfl
  try simp only [Act.put, List.setIfInBounds_toArray, List.set_cons_zero, List.set_cons_succ]
  refine wpList_nil ?_
  go_upto_region 8 with fail
  refine wp_region_lit ?_
  refine lv (by kernel_rfl) (some 33) rfl (v := ?_) ?_ ?_
  rotate_left
  · go_simp; (try simp only [IntKind.wrap_i64, Int.reduceAdd, Int.reduceSub, Int.reduceMod, Int.reducePow, Int.reduceNeg]); try with_reducible rfl
  try simp only [Act.put, List.setIfInBounds_toArray, List.set_cons_zero, List.set_cons_succ]
  refine lv (by kernel_rfl) (some 34) rfl (v := ?_) ?_ ?_
  rotate_left
  · go_simp; (try simp only [IntKind.wrap_i64, Int.reduceAdd, Int.reduceSub, Int.reduceMod, Int.reducePow, Int.reduceNeg]); try with_reducible rfl
  try simp only [Act.put, List.setIfInBounds_toArray, List.set_cons_zero, List.set_cons_succ]
  refine lv (by kernel_rfl) (some 35) rfl (v := ?_) ?_ ?_
  rotate_left
  · go_simp; (try simp only [IntKind.wrap_i64, Int.reduceAdd, Int.reduceSub, Int.reduceMod, Int.reducePow, Int.reduceNeg]); try with_reducible rfl
  try simp only [Act.put, List.setIfInBounds_toArray, List.set_cons_zero, List.set_cons_succ]
  refine l_cell MN9 0 rfl 5 (.tmp 35) _ rfl rfl rfl _ rfl _ rfl (by kernel_rfl) (by kernel_rfl) rfl rfl (netC (clr P 5 11) 40) (by kernel_rfl) _ rfl (fun s14 M14 => ?_)
  clear MN9
  try simp only [List.cons_append, List.nil_append, List.set_cons_zero, List.set_cons_succ] at M14
  try simp only [Act.put, List.setIfInBounds_toArray, List.set_cons_zero, List.set_cons_succ]
  refine wpList_nil ?_
  go_upto_region 9 with fail
  refine wp_region_lit ?_
  refine lv (by kernel_rfl) (some 36) rfl (v := ?_) ?_ ?_
  rotate_left
  · go_simp; (try simp only [IntKind.wrap_i64, Int.reduceAdd, Int.reduceSub, Int.reduceMod, Int.reducePow, Int.reduceNeg]); try with_reducible rfl
  try simp only [Act.put, List.setIfInBounds_toArray, List.set_cons_zero, List.set_cons_succ]
  refine lv (by kernel_rfl) (some 37) rfl (v := ?_) ?_ ?_
  rotate_left
  · go_simp; (try simp only [IntKind.wrap_i64, Int.reduceAdd, Int.reduceSub, Int.reduceMod, Int.reducePow, Int.reduceNeg]); try with_reducible rfl
  try simp only [Act.put, List.setIfInBounds_toArray, List.set_cons_zero, List.set_cons_succ]
  refine ly M14 (some 38) rfl (yi_cell 0 3 (.tmp 37) rfl rfl rfl _ rfl _ Try.underlying3 rfl) ?_
  try simp only [Act.put, List.setIfInBounds_toArray, List.set_cons_zero, List.set_cons_succ]
  refine lv (by kernel_rfl) (some 39) rfl (v := ?_) ?_ ?_
  rotate_left
  · go_simp; (try simp only [IntKind.wrap_i64, Int.reduceAdd, Int.reduceSub, Int.reduceMod, Int.reducePow, Int.reduceNeg]); try with_reducible rfl
  try simp only [Act.put, List.setIfInBounds_toArray, List.set_cons_zero, List.set_cons_succ]
  refine lv (by kernel_rfl) (some 40) rfl (v := ?_) ?_ ?_
  rotate_left
  · go_simp; (try simp only [IntKind.wrap_i64, Int.reduceAdd, Int.reduceSub, Int.reduceMod, Int.reducePow, Int.reduceNeg]); try with_reducible rfl
  try simp only [Act.put, List.setIfInBounds_toArray, List.set_cons_zero, List.set_cons_succ]
  refine lv (by kernel_rfl) (some 41) rfl (v := ?_) ?_ ?_
  rotate_left
  · go_simp; (try simp only [IntKind.wrap_i64, Int.reduceAdd, Int.reduceSub, Int.reduceMod, Int.reducePow, Int.reduceNeg]); try with_reducible rfl
  try simp only [Act.put, List.setIfInBounds_toArray, List.set_cons_zero, List.set_cons_succ]
  refine lv (by kernel_rfl) (some 42) rfl (v := ?_) ?_ ?_
  rotate_left
  · go_simp; (try simp only [IntKind.wrap_i64, Int.reduceAdd, Int.reduceSub, Int.reduceMod, Int.reducePow, Int.reduceNeg]); try with_reducible rfl
  try simp only [Act.put, List.setIfInBounds_toArray, List.set_cons_zero, List.set_cons_succ]
  refine lv (by kernel_rfl) (some 43) rfl (v := ?_) ?_ ?_
  rotate_left
  · go_simp; (try simp only [IntKind.wrap_i64, Int.reduceAdd, Int.reduceSub, Int.reduceMod, Int.reducePow, Int.reduceNeg]); try with_reducible rfl
  try simp only [Act.put, List.setIfInBounds_toArray, List.set_cons_zero, List.set_cons_succ]
  refine lv (by kernel_rfl) (some 44) rfl (v := ?_) ?_ ?_
  rotate_left
  · go_simp; (try simp only [IntKind.wrap_i64, Int.reduceAdd, Int.reduceSub, Int.reduceMod, Int.reducePow, Int.reduceNeg]); try with_reducible rfl
  try simp only [Act.put, List.setIfInBounds_toArray, List.set_cons_zero, List.set_cons_succ]
  refine wpList_nil ?_
  go_upto_region 6 with fail
  refine wp_region_lit ?_
  refine lv (by kernel_rfl) (some 22) rfl (v := ?_) ?_ ?_
  rotate_left
  · go_simp; (try simp only [IntKind.wrap_i64, Int.reduceAdd, Int.reduceSub, Int.reduceMod, Int.reducePow, Int.reduceNeg]); try with_reducible rfl
  try simp only [Act.put, List.setIfInBounds_toArray, List.set_cons_zero, List.set_cons_succ]
  refine lv (by kernel_rfl) (some 23) rfl (v := ?_) ?_ ?_
  rotate_left
  · go_simp; (try simp only [IntKind.wrap_i64, Int.reduceAdd, Int.reduceSub, Int.reduceMod, Int.reducePow, Int.reduceNeg]); try with_reducible rfl
  try simp only [Act.put, List.setIfInBounds_toArray, List.set_cons_zero, List.set_cons_succ]
  refine lv (by kernel_rfl) (some 11) rfl (v := ?_) ?_ ?_
  rotate_left
  · go_simp; (try simp only [IntKind.wrap_i64, Int.reduceAdd, Int.reduceSub, Int.reduceMod, Int.reducePow, Int.reduceNeg]); try with_reducible rfl
  try simp only [Act.put, List.setIfInBounds_toArray, List.set_cons_zero, List.set_cons_succ]
  refine wpList_nil ?_
  go_wp2_with fail
  have MN10 : Mem w _ [(w.heap.size, 26, (netC (clr P 5 11) 40)), (w.heap.size + 1, 23, (a16 (mix P X 5 11))), _] := M14
  clear M14
  rw [rounds_succ]
  go_upto_region 5 with fail
  refine wp_region_lit ?_
  refine lv (by kernel_rfl) (some 20) rfl (v := ?_) ?_ ?_
  rotate_left
  · go_simp; (try simp only [IntKind.wrap_i64, Int.reduceAdd, Int.reduceSub, Int.reduceMod, Int.reducePow, Int.reduceNeg]); try with_reducible rfl
  try simp only [Act.put, List.setIfInBounds_toArray, List.set_cons_zero, List.set_cons_succ]
  refine lv (by kernel_rfl) (some 21) rfl (v := ?_) ?_ ?_
  rotate_left
  · go_simp; (try simp only [IntKind.wrap_i64, Int.reduceAdd, Int.reduceSub, Int.reduceMod, Int.reducePow, Int.reduceNeg]); try with_reducible rfl
  try simp only [Act.put, List.setIfInBounds_toArray, List.set_cons_zero, List.set_cons_succ]
  refine wpList_nil ?_
  go_upto_region 7 with fail
  refine wp_region_lit ?_
  refine lv (by kernel_rfl) (some 24) rfl (v := ?_) ?_ ?_
  rotate_left
  · go_simp; (try simp only [IntKind.wrap_i64, Int.reduceAdd, Int.reduceSub, Int.reduceMod, Int.reducePow, Int.reduceNeg]); try with_reducible rfl
  try simp only [Act.put, List.setIfInBounds_toArray, List.set_cons_zero, List.set_cons_succ]
  refine lv (by kernel_rfl) (some 25) rfl (v := ?_) ?_ ?_
  rotate_left
  · go_simp; (try simp only [IntKind.wrap_i64, Int.reduceAdd, Int.reduceSub, Int.reduceMod, Int.reducePow, Int.reduceNeg]); try with_reducible rfl
  try simp only [Act.put, List.setIfInBounds_toArray, List.set_cons_zero, List.set_cons_succ]
  refine ly MN10 (some 26) rfl (yi_cell 0 3 (.tmp 25) rfl rfl rfl _ rfl _ Try.underlying3 rfl) ?_
  try simp only [Act.put, List.setIfInBounds_toArray, List.set_cons_zero, List.set_cons_succ]
  refine lv (by kernel_rfl) (some 27) rfl (v := ?_) ?_ ?_
  rotate_left
  · go_simp; (try simp only [IntKind.wrap_i64, Int.reduceAdd, Int.reduceSub, Int.reduceMod, Int.reducePow, Int.reduceNeg]); try with_reducible rfl
  try simp only [Act.put, List.setIfInBounds_toArray, List.set_cons_zero, List.set_cons_succ]
  refine lv (by kernel_rfl) (some 28) rfl (v := ?_) ?_ ?_
  rotate_left
  · go_simp; (try simp only [IntKind.wrap_i64, Int.reduceAdd, Int.reduceSub, Int.reduceMod, Int.reducePow, Int.reduceNeg]); try with_reducible rfl
  try simp only [Act.put, List.setIfInBounds_toArray, List.set_cons_zero, List.set_cons_succ]
  refine lv (by kernel_rfl) (some 29) rfl (v := ?_) ?_ ?_
  rotate_left
  · go_simp; (try simp only [IntKind.wrap_i64, Int.reduceAdd, Int.reduceSub, Int.reduceMod, Int.reducePow, Int.reduceNeg]); try with_reducible rfl
  try simp only [Act.put, List.setIfInBounds_toArray, List.set_cons_zero, List.set_cons_succ]
  with_reducible refine lu (by kernel_rfl) (some 30) rfl ?_
  try simp only [Act.put, List.setIfInBounds_toArray, List.set_cons_zero, List.set_cons_succ]
  with_reducible refine lu (by kernel_rfl) (some 31) rfl ?_
  try simp only [Act.put, List.setIfInBounds_toArray, List.set_cons_zero, List.set_cons_succ]
  refine lv (by kernel_rfl) (some 32) rfl (v := ?_) ?_ ?_
  rotate_left
  · go_simp; (try simp only [IntKind.wrap_i64, Int.reduceAdd, Int.reduceSub, Int.reduceMod, Int.reducePow, Int.reduceNeg]); try with_reducible rfl
  try simp only [Act.put, List.setIfInBounds_toArray, List.set_cons_zero, List.set_cons_succ]
  refine wpList_nil ?_
  go_upto_region 8 with fail
  refine wp_region_lit ?_
  refine lv (by kernel_rfl) (some 33) rfl (v := ?_) ?_ ?_
  rotate_left
  · go_simp; (try simp only [IntKind.wrap_i64, Int.reduceAdd, Int.reduceSub, Int.reduceMod, Int.reducePow, Int.reduceNeg]); try with_reducible rfl
  try simp only [Act.put, List.setIfInBounds_toArray, List.set_cons_zero, List.set_cons_succ]
  refine lv (by kernel_rfl) (some 34) rfl (v := ?_) ?_ ?_
  rotate_left
  · go_simp; (try simp only [IntKind.wrap_i64, Int.reduceAdd, Int.reduceSub, Int.reduceMod, Int.reducePow, Int.reduceNeg]); try with_reducible rfl
  try simp only [Act.put, List.setIfInBounds_toArray, List.set_cons_zero, List.set_cons_succ]
  refine lv (by kernel_rfl) (some 35) rfl (v := ?_) ?_ ?_
  rotate_left
  · go_simp; (try simp only [IntKind.wrap_i64, Int.reduceAdd, Int.reduceSub, Int.reduceMod, Int.reducePow, Int.reduceNeg]); try with_reducible rfl
  try simp only [Act.put, List.setIfInBounds_toArray, List.set_cons_zero, List.set_cons_succ]
  refine l_cell MN10 0 rfl 5 (.tmp 35) _ rfl rfl rfl _ rfl _ rfl (by kernel_rfl) (by kernel_rfl) rfl rfl (netC (clr P 5 12) 40) (by kernel_rfl) _ rfl (fun s15 M15 => ?_)
  clear MN10
  try simp only [List.cons_append, List.nil_append, List.set_cons_zero, List.set_cons_succ] at M15
  try simp only [Act.put, List.setIfInBounds_toArray, List.set_cons_zero, List.set_cons_succ]
  refine wpList_nil ?_
  go_upto_region 9 with fail
  refine wp_region_lit ?_
  refine lv (by kernel_rfl) (some 36) rfl (v := ?_) ?_ ?_
  rotate_left
  · go_simp; (try simp only [IntKind.wrap_i64, Int.reduceAdd, Int.reduceSub, Int.reduceMod, Int.reducePow, Int.reduceNeg]); try with_reducible rfl
  try simp only [Act.put, List.setIfInBounds_toArray, List.set_cons_zero, List.set_cons_succ]
  refine lv (by kernel_rfl) (some 37) rfl (v := ?_) ?_ ?_
  rotate_left
  · go_simp; (try simp only [IntKind.wrap_i64, Int.reduceAdd, Int.reduceSub, Int.reduceMod, Int.reducePow, Int.reduceNeg]); try with_reducible rfl
  try simp only [Act.put, List.setIfInBounds_toArray, List.set_cons_zero, List.set_cons_succ]
  refine ly M15 (some 38) rfl (yi_cell 0 3 (.tmp 37) rfl rfl rfl _ rfl _ Try.underlying3 rfl) ?_
  try simp only [Act.put, List.setIfInBounds_toArray, List.set_cons_zero, List.set_cons_succ]
  refine lv (by kernel_rfl) (some 39) rfl (v := ?_) ?_ ?_
  rotate_left
  · go_simp; (try simp only [IntKind.wrap_i64, Int.reduceAdd, Int.reduceSub, Int.reduceMod, Int.reducePow, Int.reduceNeg]); try with_reducible rfl
  try simp only [Act.put, List.setIfInBounds_toArray, List.set_cons_zero, List.set_cons_succ]
  refine lv (by kernel_rfl) (some 40) rfl (v := ?_) ?_ ?_
  rotate_left
  · go_simp; (try simp only [IntKind.wrap_i64, Int.reduceAdd, Int.reduceSub, Int.reduceMod, Int.reducePow, Int.reduceNeg]); try with_reducible rfl
  try simp only [Act.put, List.setIfInBounds_toArray, List.set_cons_zero, List.set_cons_succ]
  refine lv (by kernel_rfl) (some 41) rfl (v := ?_) ?_ ?_
  rotate_left
  · go_simp; (try simp only [IntKind.wrap_i64, Int.reduceAdd, Int.reduceSub, Int.reduceMod, Int.reducePow, Int.reduceNeg]); try with_reducible rfl
  try simp only [Act.put, List.setIfInBounds_toArray, List.set_cons_zero, List.set_cons_succ]
  refine lv (by kernel_rfl) (some 42) rfl (v := ?_) ?_ ?_
  rotate_left
  · go_simp; (try simp only [IntKind.wrap_i64, Int.reduceAdd, Int.reduceSub, Int.reduceMod, Int.reducePow, Int.reduceNeg]); try with_reducible rfl
  try simp only [Act.put, List.setIfInBounds_toArray, List.set_cons_zero, List.set_cons_succ]
  refine lv (by kernel_rfl) (some 43) rfl (v := ?_) ?_ ?_
  rotate_left
  · go_simp; (try simp only [IntKind.wrap_i64, Int.reduceAdd, Int.reduceSub, Int.reduceMod, Int.reducePow, Int.reduceNeg]); try with_reducible rfl
  try simp only [Act.put, List.setIfInBounds_toArray, List.set_cons_zero, List.set_cons_succ]
  refine lv (by kernel_rfl) (some 44) rfl (v := ?_) ?_ ?_
  rotate_left
  · go_simp; (try simp only [IntKind.wrap_i64, Int.reduceAdd, Int.reduceSub, Int.reduceMod, Int.reducePow, Int.reduceNeg]); try with_reducible rfl
  try simp only [Act.put, List.setIfInBounds_toArray, List.set_cons_zero, List.set_cons_succ]
  refine wpList_nil ?_
  go_upto_region 6 with fail
  refine wp_region_lit ?_
  refine lv (by kernel_rfl) (some 22) rfl (v := ?_) ?_ ?_
  rotate_left
  · go_simp; (try simp only [IntKind.wrap_i64, Int.reduceAdd, Int.reduceSub, Int.reduceMod, Int.reducePow, Int.reduceNeg]); try with_reducible rfl
  try simp only [Act.put, List.setIfInBounds_toArray, List.set_cons_zero, List.set_cons_succ]
  refine lv (by kernel_rfl) (some 23) rfl (v := ?_) ?_ ?_
  rotate_left
  · go_simp; (try simp only [IntKind.wrap_i64, Int.reduceAdd, Int.reduceSub, Int.reduceMod, Int.reducePow, Int.reduceNeg]); try with_reducible rfl
  try simp only [Act.put, List.setIfInBounds_toArray, List.set_cons_zero, List.set_cons_succ]
  refine lv (by kernel_rfl) (some 11) rfl (v := ?_) ?_ ?_
  rotate_left
  · go_simp; (try simp only [IntKind.wrap_i64, Int.reduceAdd, Int.reduceSub, Int.reduceMod, Int.reducePow, Int.reduceNeg]); try with_reducible rfl
  try simp only [Act.put, List.setIfInBounds_toArray, List.set_cons_zero, List.set_cons_succ]
  refine wpList_nil ?_
  go_wp2_with fail
  have MN11 : Mem w _ [(w.heap.size, 26, (netC (clr P 5 12) 40)), (w.heap.size + 1, 23, (a16 (mix P X 5 12))), _] := M15
  clear M15
  rw [rounds_succ]
  go_upto_region 5 with fail
  refine wp_region_lit ?_
  refine lv (by kernel_rfl) (some 20) rfl (v := ?_) ?_ ?_
  rotate_left
  · go_simp; (try simp only [IntKind.wrap_i64, Int.reduceAdd, Int.reduceSub, Int.reduceMod, Int.reducePow, Int.reduceNeg]); try with_reducible rfl
  try simp only [Act.put, List.setIfInBounds_toArray, List.set_cons_zero, List.set_cons_succ]
  refine lv (by kernel_rfl) (some 21) rfl (v := ?_) ?_ ?_
  rotate_left
  · go_simp; (try simp only [IntKind.wrap_i64, Int.reduceAdd, Int.reduceSub, Int.reduceMod, Int.reducePow, Int.reduceNeg]); try with_reducible rfl
  try simp only [Act.put, List.setIfInBounds_toArray, List.set_cons_zero, List.set_cons_succ]
  refine wpList_nil ?_
  go_upto_region 7 with fail
  refine wp_region_lit ?_
  refine lv (by kernel_rfl) (some 24) rfl (v := ?_) ?_ ?_
  rotate_left
  · go_simp; (try simp only [IntKind.wrap_i64, Int.reduceAdd, Int.reduceSub, Int.reduceMod, Int.reducePow, Int.reduceNeg]); try with_reducible rfl
  try simp only [Act.put, List.setIfInBounds_toArray, List.set_cons_zero, List.set_cons_succ]
  refine lv (by kernel_rfl) (some 25) rfl (v := ?_) ?_ ?_
  rotate_left
  · go_simp; (try simp only [IntKind.wrap_i64, Int.reduceAdd, Int.reduceSub, Int.reduceMod, Int.reducePow, Int.reduceNeg]); try with_reducible rfl
  try simp only [Act.put, List.setIfInBounds_toArray, List.set_cons_zero, List.set_cons_succ]
  refine ly MN11 (some 26) rfl (yi_cell 0 3 (.tmp 25) rfl rfl rfl _ rfl _ Try.underlying3 rfl) ?_
  try simp only [Act.put, List.setIfInBounds_toArray, List.set_cons_zero, List.set_cons_succ]
  refine lv (by kernel_rfl) (some 27) rfl (v := ?_) ?_ ?_
  rotate_left
  · go_simp; (try simp only [IntKind.wrap_i64, Int.reduceAdd, Int.reduceSub, Int.reduceMod, Int.reducePow, Int.reduceNeg]); try with_reducible rfl
  try simp only [Act.put, List.setIfInBounds_toArray, List.set_cons_zero, List.set_cons_succ]
  refine lv (by kernel_rfl) (some 28) rfl (v := ?_) ?_ ?_
  rotate_left
  · go_simp; (try simp only [IntKind.wrap_i64, Int.reduceAdd, Int.reduceSub, Int.reduceMod, Int.reducePow, Int.reduceNeg]); try with_reducible rfl
  try simp only [Act.put, List.setIfInBounds_toArray, List.set_cons_zero, List.set_cons_succ]
  refine lv (by kernel_rfl) (some 29) rfl (v := ?_) ?_ ?_
  rotate_left
  · go_simp; (try simp only [IntKind.wrap_i64, Int.reduceAdd, Int.reduceSub, Int.reduceMod, Int.reducePow, Int.reduceNeg]); try with_reducible rfl
  try simp only [Act.put, List.setIfInBounds_toArray, List.set_cons_zero, List.set_cons_succ]
  with_reducible refine lu (by kernel_rfl) (some 30) rfl ?_
  try simp only [Act.put, List.setIfInBounds_toArray, List.set_cons_zero, List.set_cons_succ]
  with_reducible refine lu (by kernel_rfl) (some 31) rfl ?_
  try simp only [Act.put, List.setIfInBounds_toArray, List.set_cons_zero, List.set_cons_succ]
  refine lv (by kernel_rfl) (some 32) rfl (v := ?_) ?_ ?_
  rotate_left
  · go_simp; (try simp only [IntKind.wrap_i64, Int.reduceAdd, Int.reduceSub, Int.reduceMod, Int.reducePow, Int.reduceNeg]); try with_reducible rfl
  try simp only [Act.put, List.setIfInBounds_toArray, List.set_cons_zero, List.set_cons_succ]
  refine wpList_nil ?_
  go_upto_region 8 with fail
  refine wp_region_lit ?_
  refine lv (by kernel_rfl) (some 33) rfl (v := ?_) ?_ ?_
  rotate_left
  · go_simp; (try simp only [IntKind.wrap_i64, Int.reduceAdd, Int.reduceSub, Int.reduceMod, Int.reducePow, Int.reduceNeg]); try with_reducible rfl
  try simp only [Act.put, List.setIfInBounds_toArray, List.set_cons_zero, List.set_cons_succ]
  refine lv (by kernel_rfl) (some 34) rfl (v := ?_) ?_ ?_
  rotate_left
  · go_simp; (try simp only [IntKind.wrap_i64, Int.reduceAdd, Int.reduceSub, Int.reduceMod, Int.reducePow, Int.reduceNeg]); try with_reducible rfl
  try simp only [Act.put, List.setIfInBounds_toArray, List.set_cons_zero, List.set_cons_succ]
  refine lv (by kernel_rfl) (some 35) rfl (v := ?_) ?_ ?_
  rotate_left
  · go_simp; (try simp only [IntKind.wrap_i64, Int.reduceAdd, Int.reduceSub, Int.reduceMod, Int.reducePow, Int.reduceNeg]); try with_reducible rfl
  try simp only [Act.put, List.setIfInBounds_toArray, List.set_cons_zero, List.set_cons_succ]
  refine l_cell MN11 0 rfl 5 (.tmp 35) _ rfl rfl rfl _ rfl _ rfl (by kernel_rfl) (by kernel_rfl) rfl rfl (netC (clr P 5 13) 40) (by kernel_rfl) _ rfl (fun s16 M16 => ?_)
  clear MN11
  try simp only [List.cons_append, List.nil_append, List.set_cons_zero, List.set_cons_succ] at M16
  try simp only [Act.put, List.setIfInBounds_toArray, List.set_cons_zero, List.set_cons_succ]
  refine wpList_nil ?_
  go_upto_region 9 with fail
  refine wp_region_lit ?_
  refine lv (by kernel_rfl) (some 36) rfl (v := ?_) ?_ ?_
  rotate_left
  · go_simp; (try simp only [IntKind.wrap_i64, Int.reduceAdd, Int.reduceSub, Int.reduceMod, Int.reducePow, Int.reduceNeg]); try with_reducible rfl
  try simp only [Act.put, List.setIfInBounds_toArray, List.set_cons_zero, List.set_cons_succ]
  refine lv (by kernel_rfl) (some 37) rfl (v := ?_) ?_ ?_
  rotate_left
  · go_simp; (try simp only [IntKind.wrap_i64, Int.reduceAdd, Int.reduceSub, Int.reduceMod, Int.reducePow, Int.reduceNeg]); try with_reducible rfl
  try simp only [Act.put, List.setIfInBounds_toArray, List.set_cons_zero, List.set_cons_succ]
  refine ly M16 (some 38) rfl (yi_cell 0 3 (.tmp 37) rfl rfl rfl _ rfl _ Try.underlying3 rfl) ?_
  try simp only [Act.put, List.setIfInBounds_toArray, List.set_cons_zero, List.set_cons_succ]
  refine lv (by kernel_rfl) (some 39) rfl (v := ?_) ?_ ?_
  rotate_left
  · go_simp; (try simp only [IntKind.wrap_i64, Int.reduceAdd, Int.reduceSub, Int.reduceMod, Int.reducePow, Int.reduceNeg]); try with_reducible rfl
  try simp only [Act.put, List.setIfInBounds_toArray, List.set_cons_zero, List.set_cons_succ]
  refine lv (by kernel_rfl) (some 40) rfl (v := ?_) ?_ ?_
  rotate_left
  · go_simp; (try simp only [IntKind.wrap_i64, Int.reduceAdd, Int.reduceSub, Int.reduceMod, Int.reducePow, Int.reduceNeg]); try with_reducible rfl
  try simp only [Act.put, List.setIfInBounds_toArray, List.set_cons_zero, List.set_cons_succ]
  refine lv (by kernel_rfl) (some 41) rfl (v := ?_) ?_ ?_
  rotate_left
  · go_simp; (try simp only [IntKind.wrap_i64, Int.reduceAdd, Int.reduceSub, Int.reduceMod, Int.reducePow, Int.reduceNeg]); try with_reducible rfl
  try simp only [Act.put, List.setIfInBounds_toArray, List.set_cons_zero, List.set_cons_succ]
  refine lv (by kernel_rfl) (some 42) rfl (v := ?_) ?_ ?_
  rotate_left
  · go_simp; (try simp only [IntKind.wrap_i64, Int.reduceAdd, Int.reduceSub, Int.reduceMod, Int.reducePow, Int.reduceNeg]); try with_reducible rfl
  try simp only [Act.put, List.setIfInBounds_toArray, List.set_cons_zero, List.set_cons_succ]
  refine lv (by kernel_rfl) (some 43) rfl (v := ?_) ?_ ?_
  rotate_left
  · go_simp; (try simp only [IntKind.wrap_i64, Int.reduceAdd, Int.reduceSub, Int.reduceMod, Int.reducePow, Int.reduceNeg]); try with_reducible rfl
  try simp only [Act.put, List.setIfInBounds_toArray, List.set_cons_zero, List.set_cons_succ]
  refine lv (by kernel_rfl) (some 44) rfl (v := ?_) ?_ ?_
  rotate_left
  · go_simp; (try simp only [IntKind.wrap_i64, Int.reduceAdd, Int.reduceSub, Int.reduceMod, Int.reducePow, Int.reduceNeg]); try with_reducible rfl
  try simp only [Act.put, List.setIfInBounds_toArray, List.set_cons_zero, List.set_cons_succ]
  refine wpList_nil ?_
  go_upto_region 6 with fail
  refine wp_region_lit ?_
  refine lv (by kernel_rfl) (some 22) rfl (v := ?_) ?_ ?_
  rotate_left
  · go_simp; (try simp only [IntKind.wrap_i64, Int.reduceAdd, Int.reduceSub, Int.reduceMod, Int.reducePow, Int.reduceNeg]); try with_reducible rfl
  try simp only [Act.put, List.setIfInBounds_toArray, List.set_cons_zero, List.set_cons_succ]
  refine lv (by kernel_rfl) (some 23) rfl (v := ?_) ?_ ?_
  rotate_left
  · go_simp; (try simp only [IntKind.wrap_i64, Int.reduceAdd, Int.reduceSub, Int.reduceMod, Int.reducePow, Int.reduceNeg]); try with_reducible rfl
  try simp only [Act.put, List.setIfInBounds_toArray, List.set_cons_zero, List.set_cons_succ]
  refine lv (by kernel_rfl) (some 11) rfl (v := ?_) ?_ ?_
  rotate_left
  · go_simp; (try simp only [IntKind.wrap_i64, Int.reduceAdd, Int.reduceSub, Int.reduceMod, Int.reducePow, Int.reduceNeg]); try with_reducible rfl
  try simp only [Act.put, List.setIfInBounds_toArray, List.set_cons_zero, List.set_cons_succ]
  refine wpList_nil ?_
  go_wp2_with fail
  have MN12 : Mem w _ [(w.heap.size, 26, (netC (clr P 5 13) 40)), (w.heap.size + 1, 23, (a16 (mix P X 5 13))), _] := M16
  clear M16
  rw [rounds_succ]
  go_upto_region 5 with fail
  refine wp_region_lit ?_
  refine lv (by kernel_rfl) (some 20) rfl (v := ?_) ?_ ?_
  rotate_left
  · go_simp; (try simp only [IntKind.wrap_i64, Int.reduceAdd, Int.reduceSub, Int.reduceMod, Int.reducePow, Int.reduceNeg]); try with_reducible rfl
  try simp only [Act.put, List.setIfInBounds_toArray, List.set_cons_zero, List.set_cons_succ]
  refine lv (by kernel_rfl) (some 21) rfl (v := ?_) ?_ ?_
  rotate_left
  · go_simp; (try simp only [IntKind.wrap_i64, Int.reduceAdd, Int.reduceSub, Int.reduceMod, Int.reducePow, Int.reduceNeg]); try with_reducible rfl
  try simp only [Act.put, List.setIfInBounds_toArray, List.set_cons_zero, List.set_cons_succ]
  refine wpList_nil ?_
  go_upto_region 7 with fail
  refine wp_region_lit ?_
  refine lv (by kernel_rfl) (some 24) rfl (v := ?_) ?_ ?_
  rotate_left
  · go_simp; (try simp only [IntKind.wrap_i64, Int.reduceAdd, Int.reduceSub, Int.reduceMod, Int.reducePow, Int.reduceNeg]); try with_reducible rfl
  try simp only [Act.put, List.setIfInBounds_toArray, List.set_cons_zero, List.set_cons_succ]
  refine lv (by kernel_rfl) (some 25) rfl (v := ?_) ?_ ?_
  rotate_left
  · go_simp; (try simp only [IntKind.wrap_i64, Int.reduceAdd, Int.reduceSub, Int.reduceMod, Int.reducePow, Int.reduceNeg]); try with_reducible rfl
  try simp only [Act.put, List.setIfInBounds_toArray, List.set_cons_zero, List.set_cons_succ]
  refine ly MN12 (some 26) rfl (yi_cell 0 3 (.tmp 25) rfl rfl rfl _ rfl _ Try.underlying3 rfl) ?_
  try simp only [Act.put, List.setIfInBounds_toArray, List.set_cons_zero, List.set_cons_succ]
  refine lv (by kernel_rfl) (some 27) rfl (v := ?_) ?_ ?_
  rotate_left
  · go_simp; (try simp only [IntKind.wrap_i64, Int.reduceAdd, Int.reduceSub, Int.reduceMod, Int.reducePow, Int.reduceNeg]); try with_reducible rfl
  try simp only [Act.put, List.setIfInBounds_toArray, List.set_cons_zero, List.set_cons_succ]
  refine lv (by kernel_rfl) (some 28) rfl (v := ?_) ?_ ?_
  rotate_left
  · go_simp; (try simp only [IntKind.wrap_i64, Int.reduceAdd, Int.reduceSub, Int.reduceMod, Int.reducePow, Int.reduceNeg]); try with_reducible rfl
  try simp only [Act.put, List.setIfInBounds_toArray, List.set_cons_zero, List.set_cons_succ]
  refine lv (by kernel_rfl) (some 29) rfl (v := ?_) ?_ ?_
  rotate_left
  · go_simp; (try simp only [IntKind.wrap_i64, Int.reduceAdd, Int.reduceSub, Int.reduceMod, Int.reducePow, Int.reduceNeg]); try with_reducible rfl
  try simp only [Act.put, List.setIfInBounds_toArray, List.set_cons_zero, List.set_cons_succ]
  with_reducible refine lu (by kernel_rfl) (some 30) rfl ?_
  try simp only [Act.put, List.setIfInBounds_toArray, List.set_cons_zero, List.set_cons_succ]
  with_reducible refine lu (by kernel_rfl) (some 31) rfl ?_
  try simp only [Act.put, List.setIfInBounds_toArray, List.set_cons_zero, List.set_cons_succ]
  refine lv (by kernel_rfl) (some 32) rfl (v := ?_) ?_ ?_
  rotate_left
  · go_simp; (try simp only [IntKind.wrap_i64, Int.reduceAdd, Int.reduceSub, Int.reduceMod, Int.reducePow, Int.reduceNeg]); try with_reducible rfl
  try simp only [Act.put, List.setIfInBounds_toArray, List.set_cons_zero, List.set_cons_succ]
  refine wpList_nil ?_
  go_upto_region 8 with fail
  refine wp_region_lit ?_
  refine lv (by kernel_rfl) (some 33) rfl (v := ?_) ?_ ?_
  rotate_left
  · go_simp; (try simp only [IntKind.wrap_i64, Int.reduceAdd, Int.reduceSub, Int.reduceMod, Int.reducePow, Int.reduceNeg]); try with_reducible rfl
  try simp only [Act.put, List.setIfInBounds_toArray, List.set_cons_zero, List.set_cons_succ]
  refine lv (by kernel_rfl) (some 34) rfl (v := ?_) ?_ ?_
  rotate_left
  · go_simp; (try simp only [IntKind.wrap_i64, Int.reduceAdd, Int.reduceSub, Int.reduceMod, Int.reducePow, Int.reduceNeg]); try with_reducible rfl
  try simp only [Act.put, List.setIfInBounds_toArray, List.set_cons_zero, List.set_cons_succ]
  refine lv (by kernel_rfl) (some 35) rfl (v := ?_) ?_ ?_
  rotate_left
  · go_simp; (try simp only [IntKind.wrap_i64, Int.reduceAdd, Int.reduceSub, Int.reduceMod, Int.reducePow, Int.reduceNeg]); try with_reducible rfl
  try simp only [Act.put, List.setIfInBounds_toArray, List.set_cons_zero, List.set_cons_succ]
  refine l_cell MN12 0 rfl 5 (.tmp 35) _ rfl rfl rfl _ rfl _ rfl (by kernel_rfl) (by kernel_rfl) rfl rfl (netC (clr P 5 14) 40) (by kernel_rfl) _ rfl (fun s17 M17 => ?_)
  clear MN12
  try simp only [List.cons_append, List.nil_append, List.set_cons_zero, List.set_cons_succ] at M17
  try simp only [Act.put, List.setIfInBounds_toArray, List.set_cons_zero, List.set_cons_succ]
  refine wpList_nil ?_
  go_upto_region 9 with fail
  refine wp_region_lit ?_
  refine lv (by kernel_rfl) (some 36) rfl (v := ?_) ?_ ?_
  rotate_left
  · go_simp; (try simp only [IntKind.wrap_i64, Int.reduceAdd, Int.reduceSub, Int.reduceMod, Int.reducePow, Int.reduceNeg]); try with_reducible rfl
  try simp only [Act.put, List.setIfInBounds_toArray, List.set_cons_zero, List.set_cons_succ]
  refine lv (by kernel_rfl) (some 37) rfl (v := ?_) ?_ ?_
  rotate_left
  · go_simp; (try simp only [IntKind.wrap_i64, Int.reduceAdd, Int.reduceSub, Int.reduceMod, Int.reducePow, Int.reduceNeg]); try with_reducible rfl
  try simp only [Act.put, List.setIfInBounds_toArray, List.set_cons_zero, List.set_cons_succ]
  refine ly M17 (some 38) rfl (yi_cell 0 3 (.tmp 37) rfl rfl rfl _ rfl _ Try.underlying3 rfl) ?_
  try simp only [Act.put, List.setIfInBounds_toArray, List.set_cons_zero, List.set_cons_succ]
  refine lv (by kernel_rfl) (some 39) rfl (v := ?_) ?_ ?_
  rotate_left
  · go_simp; (try simp only [IntKind.wrap_i64, Int.reduceAdd, Int.reduceSub, Int.reduceMod, Int.reducePow, Int.reduceNeg]); try with_reducible rfl
  try simp only [Act.put, List.setIfInBounds_toArray, List.set_cons_zero, List.set_cons_succ]
  refine lv (by kernel_rfl) (some 40) rfl (v := ?_) ?_ ?_
  rotate_left
  · go_simp; (try simp only [IntKind.wrap_i64, Int.reduceAdd, Int.reduceSub, Int.reduceMod, Int.reducePow, Int.reduceNeg]); try with_reducible rfl
  try simp only [Act.put, List.setIfInBounds_toArray, List.set_cons_zero, List.set_cons_succ]
  refine lv (by kernel_rfl) (some 41) rfl (v := ?_) ?_ ?_
  rotate_left
  · go_simp; (try simp only [IntKind.wrap_i64, Int.reduceAdd, Int.reduceSub, Int.reduceMod, Int.reducePow, Int.reduceNeg]); try with_reducible rfl
  try simp only [Act.put, List.setIfInBounds_toArray, List.set_cons_zero, List.set_cons_succ]
  refine lv (by kernel_rfl) (some 42) rfl (v := ?_) ?_ ?_
  rotate_left
  · go_simp; (try simp only [IntKind.wrap_i64, Int.reduceAdd, Int.reduceSub, Int.reduceMod, Int.reducePow, Int.reduceNeg]); try with_reducible rfl
  try simp only [Act.put, List.setIfInBounds_toArray, List.set_cons_zero, List.set_cons_succ]
  refine lv (by kernel_rfl) (some 43) rfl (v := ?_) ?_ ?_
  rotate_left
  · go_simp; (try simp only [IntKind.wrap_i64, Int.reduceAdd, Int.reduceSub, Int.reduceMod, Int.reducePow, Int.reduceNeg]); try with_reducible rfl
  try simp only [Act.put, List.setIfInBounds_toArray, List.set_cons_zero, List.set_cons_succ]
  refine lv (by kernel_rfl) (some 44) rfl (v := ?_) ?_ ?_
  rotate_left
  · go_simp; (try simp only [IntKind.wrap_i64, Int.reduceAdd, Int.reduceSub, Int.reduceMod, Int.reducePow, Int.reduceNeg]); try with_reducible rfl
  try simp only [Act.put, List.setIfInBounds_toArray, List.set_cons_zero, List.set_cons_succ]
  refine wpList_nil ?_
  go_upto_region 6 with fail
  refine wp_region_lit ?_
  refine lv (by kernel_rfl) (some 22) rfl (v := ?_) ?_ ?_
  rotate_left
  · go_simp; (try simp only [IntKind.wrap_i64, Int.reduceAdd, Int.reduceSub, Int.reduceMod, Int.reducePow, Int.reduceNeg]); try with_reducible rfl
  try simp only [Act.put, List.setIfInBounds_toArray, List.set_cons_zero, List.set_cons_succ]
  refine lv (by kernel_rfl) (some 23) rfl (v := ?_) ?_ ?_
  rotate_left
  · go_simp; (try simp only [IntKind.wrap_i64, Int.reduceAdd, Int.reduceSub, Int.reduceMod, Int.reducePow, Int.reduceNeg]); try with_reducible rfl
  try simp only [Act.put, List.setIfInBounds_toArray, List.set_cons_zero, List.set_cons_succ]
  refine lv (by kernel_rfl) (some 11) rfl (v := ?_) ?_ ?_
  rotate_left
  · go_simp; (try simp only [IntKind.wrap_i64, Int.reduceAdd, Int.reduceSub, Int.reduceMod, Int.reducePow, Int.reduceNeg]); try with_reducible rfl
  try simp only [Act.put, List.setIfInBounds_toArray, List.set_cons_zero, List.set_cons_succ]
  refine wpList_nil ?_
  go_wp2_with fail
  have MN13 : Mem w _ [(w.heap.size, 26, (netC (clr P 5 14) 40)), (w.heap.size + 1, 23, (a16 (mix P X 5 14))), _] := M17
  clear M17
  rw [rounds_succ]
  go_upto_region 5 with fail
  refine wp_region_lit ?_
  refine lv (by kernel_rfl) (some 20) rfl (v := ?_) ?_ ?_
  rotate_left
  · go_simp; (try simp only [IntKind.wrap_i64, Int.reduceAdd, Int.reduceSub, Int.reduceMod, Int.reducePow, Int.reduceNeg]); try with_reducible rfl
  try simp only [Act.put, List.setIfInBounds_toArray, List.set_cons_zero, List.set_cons_succ]
  refine lv (by kernel_rfl) (some 21) rfl (v := ?_) ?_ ?_
  rotate_left
  · go_simp; (try simp only [IntKind.wrap_i64, Int.reduceAdd, Int.reduceSub, Int.reduceMod, Int.reducePow, Int.reduceNeg]); try with_reducible rfl
  try simp only [Act.put, List.setIfInBounds_toArray, List.set_cons_zero, List.set_cons_succ]
  refine wpList_nil ?_
  go_upto_region 7 with fail
  refine wp_region_lit ?_
  refine lv (by kernel_rfl) (some 24) rfl (v := ?_) ?_ ?_
  rotate_left
  · go_simp; (try simp only [IntKind.wrap_i64, Int.reduceAdd, Int.reduceSub, Int.reduceMod, Int.reducePow, Int.reduceNeg]); try with_reducible rfl
  try simp only [Act.put, List.setIfInBounds_toArray, List.set_cons_zero, List.set_cons_succ]
  refine lv (by kernel_rfl) (some 25) rfl (v := ?_) ?_ ?_
  rotate_left
  · go_simp; (try simp only [IntKind.wrap_i64, Int.reduceAdd, Int.reduceSub, Int.reduceMod, Int.reducePow, Int.reduceNeg]); try with_reducible rfl
  try simp only [Act.put, List.setIfInBounds_toArray, List.set_cons_zero, List.set_cons_succ]
  refine ly MN13 (some 26) rfl (yi_cell 0 3 (.tmp 25) rfl rfl rfl _ rfl _ Try.underlying3 rfl) ?_
  try simp only [Act.put, List.setIfInBounds_toArray, List.set_cons_zero, List.set_cons_succ]
  refine lv (by kernel_rfl) (some 27) rfl (v := ?_) ?_ ?_
  rotate_left
  · go_simp; (try simp only [IntKind.wrap_i64, Int.reduceAdd, Int.reduceSub, Int.reduceMod, Int.reducePow, Int.reduceNeg]); try with_reducible rfl
  try simp only [Act.put, List.setIfInBounds_toArray, List.set_cons_zero, List.set_cons_succ]
  refine lv (by kernel_rfl) (some 28) rfl (v := ?_) ?_ ?_
  rotate_left
  · go_simp; (try simp only [IntKind.wrap_i64, Int.reduceAdd, Int.reduceSub, Int.reduceMod, Int.reducePow, Int.reduceNeg]); try with_reducible rfl
  try simp only [Act.put, List.setIfInBounds_toArray, List.set_cons_zero, List.set_cons_succ]
  refine lv (by kernel_rfl) (some 29) rfl (v := ?_) ?_ ?_
  rotate_left
  · go_simp; (try simp only [IntKind.wrap_i64, Int.reduceAdd, Int.reduceSub, Int.reduceMod, Int.reducePow, Int.reduceNeg]); try with_reducible rfl
  try simp only [Act.put, List.setIfInBounds_toArray, List.set_cons_zero, List.set_cons_succ]
  with_reducible refine lu (by kernel_rfl) (some 30) rfl ?_
  try simp only [Act.put, List.setIfInBounds_toArray, List.set_cons_zero, List.set_cons_succ]
  with_reducible refine lu (by kernel_rfl) (some 31) rfl ?_
  try simp only [Act.put, List.setIfInBounds_toArray, List.set_cons_zero, List.set_cons_succ]
  refine lv (by kernel_rfl) (some 32) rfl (v := ?_) ?_ ?_
  rotate_left
  · go_simp; (try simp only [IntKind.wrap_i64, Int.reduceAdd, Int.reduceSub, Int.reduceMod, Int.reducePow, Int.reduceNeg]); try with_reducible rfl
  try simp only [Act.put, List.setIfInBounds_toArray, List.set_cons_zero, List.set_cons_succ]
  refine wpList_nil ?_
  go_upto_region 8 with fail
  refine wp_region_lit ?_
  refine lv (by kernel_rfl) (some 33) rfl (v := ?_) ?_ ?_
  rotate_left
  · go_simp; (try simp only [IntKind.wrap_i64, Int.reduceAdd, Int.reduceSub, Int.reduceMod, Int.reducePow, Int.reduceNeg]); try with_reducible rfl
  try simp only [Act.put, List.setIfInBounds_toArray, List.set_cons_zero, List.set_cons_succ]
  refine lv (by kernel_rfl) (some 34) rfl (v := ?_) ?_ ?_
  rotate_left
  · go_simp; (try simp only [IntKind.wrap_i64, Int.reduceAdd, Int.reduceSub, Int.reduceMod, Int.reducePow, Int.reduceNeg]); try with_reducible rfl
  try simp only [Act.put, List.setIfInBounds_toArray, List.set_cons_zero, List.set_cons_succ]
  refine lv (by kernel_rfl) (some 35) rfl (v := ?_) ?_ ?_
  rotate_left
  · go_simp; (try simp only [IntKind.wrap_i64, Int.reduceAdd, Int.reduceSub, Int.reduceMod, Int.reducePow, Int.reduceNeg]); try with_reducible rfl
  try simp only [Act.put, List.setIfInBounds_toArray, List.set_cons_zero, List.set_cons_succ]
  refine l_cell MN13 0 rfl 5 (.tmp 35) _ rfl rfl rfl _ rfl _ rfl (by kernel_rfl) (by kernel_rfl) rfl rfl (netC (clr P 5 15) 40) (by kernel_rfl) _ rfl (fun s18 M18 => ?_)
  clear MN13
  try simp only [List.cons_append, List.nil_append, List.set_cons_zero, List.set_cons_succ] at M18
  try simp only [Act.put, List.setIfInBounds_toArray, List.set_cons_zero, List.set_cons_succ]
  refine wpList_nil ?_
  go_upto_region 9 with fail
  refine wp_region_lit ?_
  refine lv (by kernel_rfl) (some 36) rfl (v := ?_) ?_ ?_
  rotate_left
  · go_simp; (try simp only [IntKind.wrap_i64, Int.reduceAdd, Int.reduceSub, Int.reduceMod, Int.reducePow, Int.reduceNeg]); try with_reducible rfl
  try simp only [Act.put, List.setIfInBounds_toArray, List.set_cons_zero, List.set_cons_succ]
  refine lv (by kernel_rfl) (some 37) rfl (v := ?_) ?_ ?_
  rotate_left
  · go_simp; (try simp only [IntKind.wrap_i64, Int.reduceAdd, Int.reduceSub, Int.reduceMod, Int.reducePow, Int.reduceNeg]); try with_reducible rfl
  try simp only [Act.put, List.setIfInBounds_toArray, List.set_cons_zero, List.set_cons_succ]
  refine ly M18 (some 38) rfl (yi_cell 0 3 (.tmp 37) rfl rfl rfl _ rfl _ Try.underlying3 rfl) ?_
  try simp only [Act.put, List.setIfInBounds_toArray, List.set_cons_zero, List.set_cons_succ]
  refine lv (by kernel_rfl) (some 39) rfl (v := ?_) ?_ ?_
  rotate_left
  · go_simp; (try simp only [IntKind.wrap_i64, Int.reduceAdd, Int.reduceSub, Int.reduceMod, Int.reducePow, Int.reduceNeg]); try with_reducible rfl
  try simp only [Act.put, List.setIfInBounds_toArray, List.set_cons_zero, List.set_cons_succ]
  refine lv (by kernel_rfl) (some 40) rfl (v := ?_) ?_ ?_
  rotate_left
  · go_simp; (try simp only [IntKind.wrap_i64, Int.reduceAdd, Int.reduceSub, Int.reduceMod, Int.reducePow, Int.reduceNeg]); try with_reducible rfl
  try simp only [Act.put, List.setIfInBounds_toArray, List.set_cons_zero, List.set_cons_succ]
  refine lv (by kernel_rfl) (some 41) rfl (v := ?_) ?_ ?_
  rotate_left
  · go_simp; (try simp only [IntKind.wrap_i64, Int.reduceAdd, Int.reduceSub, Int.reduceMod, Int.reducePow, Int.reduceNeg]); try with_reducible rfl
  try simp only [Act.put, List.setIfInBounds_toArray, List.set_cons_zero, List.set_cons_succ]
  refine lv (by kernel_rfl) (some 42) rfl (v := ?_) ?_ ?_
  rotate_left
  · go_simp; (try simp only [IntKind.wrap_i64, Int.reduceAdd, Int.reduceSub, Int.reduceMod, Int.reducePow, Int.reduceNeg]); try with_reducible rfl
  try simp only [Act.put, List.setIfInBounds_toArray, List.set_cons_zero, List.set_cons_succ]
  refine lv (by kernel_rfl) (some 43) rfl (v := ?_) ?_ ?_
  rotate_left
  · go_simp; (try simp only [IntKind.wrap_i64, Int.reduceAdd, Int.reduceSub, Int.reduceMod, Int.reducePow, Int.reduceNeg]); try with_reducible rfl
  try simp only [Act.put, List.setIfInBounds_toArray, List.set_cons_zero, List.set_cons_succ]
  refine lv (by kernel_rfl) (some 44) rfl (v := ?_) ?_ ?_
  rotate_left
  · go_simp; (try simp only [IntKind.wrap_i64, Int.reduceAdd, Int.reduceSub, Int.reduceMod, Int.reducePow, Int.reduceNeg]); try with_reducible rfl
  try simp only [Act.put, List.setIfInBounds_toArray, List.set_cons_zero, List.set_cons_succ]
  refine wpList_nil ?_
  go_upto_region 6 with fail
  refine wp_region_lit ?_
  refine lv (by kernel_rfl) (some 22) rfl (v := ?_) ?_ ?_
  rotate_left
  · go_simp; (try simp only [IntKind.wrap_i64, Int.reduceAdd, Int.reduceSub, Int.reduceMod, Int.reducePow, Int.reduceNeg]); try with_reducible rfl
  try simp only [Act.put, List.setIfInBounds_toArray, List.set_cons_zero, List.set_cons_succ]
  refine lv (by kernel_rfl) (some 23) rfl (v := ?_) ?_ ?_
  rotate_left
  · go_simp; (try simp only [IntKind.wrap_i64, Int.reduceAdd, Int.reduceSub, Int.reduceMod, Int.reducePow, Int.reduceNeg]); try with_reducible rfl
  try simp only [Act.put, List.setIfInBounds_toArray, List.set_cons_zero, List.set_cons_succ]
  refine lv (by kernel_rfl) (some 11) rfl (v := ?_) ?_ ?_
  rotate_left
  · go_simp; (try simp only [IntKind.wrap_i64, Int.reduceAdd, Int.reduceSub, Int.reduceMod, Int.reducePow, Int.reduceNeg]); try with_reducible rfl
  try simp only [Act.put, List.setIfInBounds_toArray, List.set_cons_zero, List.set_cons_succ]
  refine wpList_nil ?_
  go_wp2_with fail
  have MN14 : Mem w _ [(w.heap.size, 26, (netC (clr P 5 15) 40)), (w.heap.size + 1, 23, (a16 (mix P X 5 15))), _] := M18
  clear M18
  rw [rounds_succ]
  go_upto_region 5 with fail
  refine wp_region_lit ?_
  refine lv (by kernel_rfl) (some 20) rfl (v := ?_) ?_ ?_
  rotate_left
  · go_simp; (try simp only [IntKind.wrap_i64, Int.reduceAdd, Int.reduceSub, Int.reduceMod, Int.reducePow, Int.reduceNeg]); try with_reducible rfl
  try simp only [Act.put, List.setIfInBounds_toArray, List.set_cons_zero, List.set_cons_succ]
  refine lv (by kernel_rfl) (some 21) rfl (v := ?_) ?_ ?_
  rotate_left
  · go_simp; (try simp only [IntKind.wrap_i64, Int.reduceAdd, Int.reduceSub, Int.reduceMod, Int.reducePow, Int.reduceNeg]); try with_reducible rfl
  try simp only [Act.put, List.setIfInBounds_toArray, List.set_cons_zero, List.set_cons_succ]
  refine wpList_nil ?_
  go_upto_region 7 with fail
  refine wp_region_lit ?_
  refine lv (by kernel_rfl) (some 24) rfl (v := ?_) ?_ ?_
  rotate_left
  · go_simp; (try simp only [IntKind.wrap_i64, Int.reduceAdd, Int.reduceSub, Int.reduceMod, Int.reducePow, Int.reduceNeg]); try with_reducible rfl
  try simp only [Act.put, List.setIfInBounds_toArray, List.set_cons_zero, List.set_cons_succ]
  refine lv (by kernel_rfl) (some 25) rfl (v := ?_) ?_ ?_
  rotate_left
  · go_simp; (try simp only [IntKind.wrap_i64, Int.reduceAdd, Int.reduceSub, Int.reduceMod, Int.reducePow, Int.reduceNeg]); try with_reducible rfl
  try simp only [Act.put, List.setIfInBounds_toArray, List.set_cons_zero, List.set_cons_succ]
  refine ly MN14 (some 26) rfl (yi_cell 0 3 (.tmp 25) rfl rfl rfl _ rfl _ Try.underlying3 rfl) ?_
  try simp only [Act.put, List.setIfInBounds_toArray, List.set_cons_zero, List.set_cons_succ]
  refine lv (by kernel_rfl) (some 27) rfl (v := ?_) ?_ ?_
  rotate_left
  · go_simp; (try simp only [IntKind.wrap_i64, Int.reduceAdd, Int.reduceSub, Int.reduceMod, Int.reducePow, Int.reduceNeg]); try with_reducible rfl
  try simp only [Act.put, List.setIfInBounds_toArray, List.set_cons_zero, List.set_cons_succ]
  refine lv (by kernel_rfl) (some 28) rfl (v := ?_) ?_ ?_
  rotate_left
  · go_simp; (try simp only [IntKind.wrap_i64, Int.reduceAdd, Int.reduceSub, Int.reduceMod, Int.reducePow, Int.reduceNeg]); try with_reducible rfl
  try simp only [Act.put, List.setIfInBounds_toArray, List.set_cons_zero, List.set_cons_succ]
  refine lv (by kernel_rfl) (some 29) rfl (v := ?_) ?_ ?_
  rotate_left
  · go_simp; (try simp only [IntKind.wrap_i64, Int.reduceAdd, Int.reduceSub, Int.reduceMod, Int.reducePow, Int.reduceNeg]); try with_reducible rfl
  try simp only [Act.put, List.setIfInBounds_toArray, List.set_cons_zero, List.set_cons_succ]
  with_reducible refine lu (by kernel_rfl) (some 30) rfl ?_
  try simp only [Act.put, List.setIfInBounds_toArray, List.set_cons_zero, List.set_cons_succ]
  with_reducible refine lu (by kernel_rfl) (some 31) rfl ?_
  try simp only [Act.put, List.setIfInBounds_toArray, List.set_cons_zero, List.set_cons_succ]
  refine lv (by kernel_rfl) (some 32) rfl (v := ?_) ?_ ?_
  rotate_left
  · go_simp; (try simp only [IntKind.wrap_i64, Int.reduceAdd, Int.reduceSub, Int.reduceMod, Int.reducePow, Int.reduceNeg]); try with_reducible rfl
  try simp only [Act.put, List.setIfInBounds_toArray, List.set_cons_zero, List.set_cons_succ]
  refine wpList_nil ?_
  go_upto_region 8 with fail
  refine wp_region_lit ?_
  refine lv (by kernel_rfl) (some 33) rfl (v := ?_) ?_ ?_
  rotate_left
  · go_simp; (try simp only [IntKind.wrap_i64, Int.reduceAdd, Int.reduceSub, Int.reduceMod, Int.reducePow, Int.reduceNeg]); try with_reducible rfl
  try simp only [Act.put, List.setIfInBounds_toArray, List.set_cons_zero, List.set_cons_succ]
  refine lv (by kernel_rfl) (some 34) rfl (v := ?_) ?_ ?_
  rotate_left
  · go_simp; (try simp only [IntKind.wrap_i64, Int.reduceAdd, Int.reduceSub, Int.reduceMod, Int.reducePow, Int.reduceNeg]); try with_reducible rfl
  try simp only [Act.put, List.setIfInBounds_toArray, List.set_cons_zero, List.set_cons_succ]
  refine lv (by kernel_rfl) (some 35) rfl (v := ?_) ?_ ?_
  rotate_left
  · go_simp; (try simp only [IntKind.wrap_i64, Int.reduceAdd, Int.reduceSub, Int.reduceMod, Int.reducePow, Int.reduceNeg]); try with_reducible rfl
  try simp only [Act.put, List.setIfInBounds_toArray, List.set_cons_zero, List.set_cons_succ]
  refine l_cell MN14 0 rfl 5 (.tmp 35) _ rfl rfl rfl _ rfl _ rfl (by kernel_rfl) (by kernel_rfl) rfl rfl (netC (clr P 5 16) 40) (by kernel_rfl) _ rfl (fun s19 M19 => ?_)
  clear MN14
  try simp only [List.cons_append, List.nil_append, List.set_cons_zero, List.set_cons_succ] at M19
  try simp only [Act.put, List.setIfInBounds_toArray, List.set_cons_zero, List.set_cons_succ]
  refine wpList_nil ?_
  go_upto_region 9 with fail
  refine wp_region_lit ?_
  refine lv (by kernel_rfl) (some 36) rfl (v := ?_) ?_ ?_
  rotate_left
  · go_simp; (try simp only [IntKind.wrap_i64, Int.reduceAdd, Int.reduceSub, Int.reduceMod, Int.reducePow, Int.reduceNeg]); try with_reducible rfl
  try simp only [Act.put, List.setIfInBounds_toArray, List.set_cons_zero, List.set_cons_succ]
  refine lv (by kernel_rfl) (some 37) rfl (v := ?_) ?_ ?_
  rotate_left
  · go_simp; (try simp only [IntKind.wrap_i64, Int.reduceAdd, Int.reduceSub, Int.reduceMod, Int.reducePow, Int.reduceNeg]); try with_reducible rfl
  try simp only [Act.put, List.setIfInBounds_toArray, List.set_cons_zero, List.set_cons_succ]
  refine ly M19 (some 38) rfl (yi_cell 0 3 (.tmp 37) rfl rfl rfl _ rfl _ Try.underlying3 rfl) ?_
  try simp only [Act.put, List.setIfInBounds_toArray, List.set_cons_zero, List.set_cons_succ]
  refine lv (by kernel_rfl) (some 39) rfl (v := ?_) ?_ ?_
  rotate_left
  · go_simp; (try simp only [IntKind.wrap_i64, Int.reduceAdd, Int.reduceSub, Int.reduceMod, Int.reducePow, Int.reduceNeg]); try with_reducible rfl
  try simp only [Act.put, List.setIfInBounds_toArray, List.set_cons_zero, List.set_cons_succ]
  refine lv (by kernel_rfl) (some 40) rfl (v := ?_) ?_ ?_
  rotate_left
  · go_simp; (try simp only [IntKind.wrap_i64, Int.reduceAdd, Int.reduceSub, Int.reduceMod, Int.reducePow, Int.reduceNeg]); try with_reducible rfl
  try simp only [Act.put, List.setIfInBounds_toArray, List.set_cons_zero, List.set_cons_succ]
  refine lv (by kernel_rfl) (some 41) rfl (v := ?_) ?_ ?_
  rotate_left
  · go_simp; (try simp only [IntKind.wrap_i64, Int.reduceAdd, Int.reduceSub, Int.reduceMod, Int.reducePow, Int.reduceNeg]); try with_reducible rfl
  try simp only [Act.put, List.setIfInBounds_toArray, List.set_cons_zero, List.set_cons_succ]
  refine lv (by kernel_rfl) (some 42) rfl (v := ?_) ?_ ?_
  rotate_left
  · go_simp; (try simp only [IntKind.wrap_i64, Int.reduceAdd, Int.reduceSub, Int.reduceMod, Int.reducePow, Int.reduceNeg]); try with_reducible rfl
  try simp only [Act.put, List.setIfInBounds_toArray, List.set_cons_zero, List.set_cons_succ]
  refine lv (by kernel_rfl) (some 43) rfl (v := ?_) ?_ ?_
  rotate_left
  · go_simp; (try simp only [IntKind.wrap_i64, Int.reduceAdd, Int.reduceSub, Int.reduceMod, Int.reducePow, Int.reduceNeg]); try with_reducible rfl
  try simp only [Act.put, List.setIfInBounds_toArray, List.set_cons_zero, List.set_cons_succ]
  refine lv (by kernel_rfl) (some 44) rfl (v := ?_) ?_ ?_
  rotate_left
  · go_simp; (try simp only [IntKind.wrap_i64, Int.reduceAdd, Int.reduceSub, Int.reduceMod, Int.reducePow, Int.reduceNeg]); try with_reducible rfl
  try simp only [Act.put, List.setIfInBounds_toArray, List.set_cons_zero, List.set_cons_succ]
  refine wpList_nil ?_
  go_upto_region 6 with fail
  refine wp_region_lit ?_
  refine lv (by kernel_rfl) (some 22) rfl (v := ?_) ?_ ?_
  rotate_left
  · go_simp; (try simp only [IntKind.wrap_i64, Int.reduceAdd, Int.reduceSub, Int.reduceMod, Int.reducePow, Int.reduceNeg]); try with_reducible rfl
  try simp only [Act.put, List.setIfInBounds_toArray, List.set_cons_zero, List.set_cons_succ]
  refine lv (by kernel_rfl) (some 23) rfl (v := ?_) ?_ ?_
  rotate_left
  · go_simp; (try simp only [IntKind.wrap_i64, Int.reduceAdd, Int.reduceSub, Int.reduceMod, Int.reducePow, Int.reduceNeg]); try with_reducible rfl
  try simp only [Act.put, List.setIfInBounds_toArray, List.set_cons_zero, List.set_cons_succ]
  refine lv (by kernel_rfl) (some 11) rfl (v := ?_) ?_ ?_
  rotate_left
  · go_simp; (try simp only [IntKind.wrap_i64, Int.reduceAdd, Int.reduceSub, Int.reduceMod, Int.reducePow, Int.reduceNeg]); try with_reducible rfl
  try simp only [Act.put, List.setIfInBounds_toArray, List.set_cons_zero, List.set_cons_succ]
  refine wpList_nil ?_
  go_wp2_with fail
  have MN15 : Mem w _ [(w.heap.size, 26, (netC (clr P 5 16) 40)), (w.heap.size + 1, 23, (a16 (mix P X 5 16))), _] := M19
  clear M19
  rw [rounds_succ]
  go_upto_region 5 with fail
  refine wp_region_lit ?_
  refine lv (by kernel_rfl) (some 20) rfl (v := ?_) ?_ ?_
  rotate_left
  · go_simp; (try simp only [IntKind.wrap_i64, Int.reduceAdd, Int.reduceSub, Int.reduceMod, Int.reducePow, Int.reduceNeg]); try with_reducible rfl
  try simp only [Act.put, List.setIfInBounds_toArray, List.set_cons_zero, List.set_cons_succ]
  refine lv (by kernel_rfl) (some 21) rfl (v := ?_) ?_ ?_
  rotate_left
  · go_simp; (try simp only [IntKind.wrap_i64, Int.reduceAdd, Int.reduceSub, Int.reduceMod, Int.reducePow, Int.reduceNeg]); try with_reducible rfl
  try simp only [Act.put, List.setIfInBounds_toArray, List.set_cons_zero, List.set_cons_succ]
  refine wpList_nil ?_
  rw [HY.out] at MN15
  go_upto_region 11 with fail
  refine wp_region_lit ?_
  refine lv (by kernel_rfl) (some 51) rfl (v := ?_) ?_ ?_
  rotate_left
  · go_simp; (try simp only [IntKind.wrap_i64, Int.reduceAdd, Int.reduceSub, Int.reduceMod, Int.reducePow, Int.reduceNeg]); try with_reducible rfl
  try simp only [Act.put, List.setIfInBounds_toArray, List.set_cons_zero, List.set_cons_succ]
  refine lv (by kernel_rfl) (some 52) rfl (v := ?_) ?_ ?_
  rotate_left
  · go_simp; (try simp only [IntKind.wrap_i64, Int.reduceAdd, Int.reduceSub, Int.reduceMod, Int.reducePow, Int.reduceNeg]); try with_reducible rfl
  try simp only [Act.put, List.setIfInBounds_toArray, List.set_cons_zero, List.set_cons_succ]
  refine lv (by kernel_rfl) (some 53) rfl (v := ?_) ?_ ?_
  rotate_left
  · go_simp; (try simp only [IntKind.wrap_i64, Int.reduceAdd, Int.reduceSub, Int.reduceMod, Int.reducePow, Int.reduceNeg]); try with_reducible rfl
  try simp only [Act.put, List.setIfInBounds_toArray, List.set_cons_zero, List.set_cons_succ]
  refine lv (by kernel_rfl) (some 54) rfl (v := ?_) ?_ ?_
  rotate_left
  · go_simp; (try simp only [IntKind.wrap_i64, Int.reduceAdd, Int.reduceSub, Int.reduceMod, Int.reducePow, Int.reduceNeg]); try with_reducible rfl
  try simp only [Act.put, List.setIfInBounds_toArray, List.set_cons_zero, List.set_cons_succ]
  refine lv (by kernel_rfl) (some 55) rfl (v := ?_) ?_ ?_
  rotate_left
  · go_simp; (try simp only [IntKind.wrap_i64, Int.reduceAdd, Int.reduceSub, Int.reduceMod, Int.reducePow, Int.reduceNeg]); try with_reducible rfl
  try simp only [Act.put, List.setIfInBounds_toArray, List.set_cons_zero, List.set_cons_succ]
  refine ly MN15 (some 56) rfl (yi_cell 1 5 (.tmp 55) rfl rfl rfl q rfl (.int .u8 (Y q)) Try.underlying5 hg.out) ?_
  try simp only [Act.put, List.setIfInBounds_toArray, List.set_cons_zero, List.set_cons_succ]
  refine lv (by kernel_rfl) (some 57) rfl (v := ?_) ?_ ?_
  rotate_left
  · go_simp; (try simp only [IntKind.wrap_i64, Int.reduceAdd, Int.reduceSub, Int.reduceMod, Int.reducePow, Int.reduceNeg]); try with_reducible rfl
  try simp only [Act.put, List.setIfInBounds_toArray, List.set_cons_zero, List.set_cons_succ]
  refine lv (by kernel_rfl) (some 58) rfl (v := ?_) ?_ ?_
  rotate_left
  · go_simp; (try simp only [IntKind.wrap_i64, Int.reduceAdd, Int.reduceSub, Int.reduceMod, Int.reducePow, Int.reduceNeg]); try with_reducible rfl
  try simp only [Act.put, List.setIfInBounds_toArray, List.set_cons_zero, List.set_cons_succ]
  refine lv (by kernel_rfl) (some 59) rfl (v := ?_) ?_ ?_
  rotate_left
  · go_simp; (try simp only [IntKind.wrap_i64, Int.reduceAdd, Int.reduceSub, Int.reduceMod, Int.reducePow, Int.reduceNeg]); try with_reducible rfl
  try simp only [Act.put, List.setIfInBounds_toArray, List.set_cons_zero, List.set_cons_succ]
  refine l_cell MN15 1 (by kernel_rfl) 5 (.tmp 59) _ rfl rfl rfl q rfl (.int .u8 v) rfl (by kernel_rfl) hd rfl rfl (a16 (updn Y q v)) (hs.out v) _ rfl (fun s20 M20 => ?_)
  clear MN15
  try simp only [List.cons_append, List.nil_append, List.set_cons_zero, List.set_cons_succ] at M20
  try simp only [Act.put, List.setIfInBounds_toArray, List.set_cons_zero, List.set_cons_succ]
  refine wpList_nil ?_
  go_upto_region 12 with fail
  refine wp_region_lit ?_
  refine ly M20 (some 60) rfl (yi_row 0 26 (.tmp 5) rfl (by kernel_rfl) rfl rfl Try.underlying26 rfl (by kernel_rfl)) ?_
  try simp only [Act.put, List.setIfInBounds_toArray, List.set_cons_zero, List.set_cons_succ]
  refine l_call (by kernel_rfl) (some 61) rfl (c15 _) (by kernel_rfl) (fun s21 hb21 => ?_)
  have M21 := M20.call hb21
  clear hb21 M20
  try simp only [Act.put, List.setIfInBounds_toArray, List.set_cons_zero, List.set_cons_succ]
  refine lv (by kernel_rfl) (some 62) rfl (v := ?_) ?_ ?_
  rotate_left
  · go_simp; try with_reducible rfl
  try simp only [Act.put, List.setIfInBounds_toArray, List.set_cons_zero, List.set_cons_succ]
  refine ly M21 (some 63) rfl (yi_row 0 26 (.tmp 5) rfl (by kernel_rfl) rfl rfl Try.underlying26 rfl (by kernel_rfl)) ?_
  try simp only [Act.put, List.setIfInBounds_toArray, List.set_cons_zero, List.set_cons_succ]
  refine lv (by kernel_rfl) (some 64) rfl (v := ?_) ?_ ?_
  rotate_left
  · go_simp; try with_reducible rfl
  try simp only [Act.put, List.setIfInBounds_toArray, List.set_cons_zero, List.set_cons_succ]
  refine ly M21 (some 65) rfl (yi_cell 1 5 (.tmp 64) rfl (by kernel_rfl) rfl 1 rfl (.int .u8 (updn Y q v 1)) Try.underlying5 rfl) ?_
  try simp only [Act.put, List.setIfInBounds_toArray, List.set_cons_zero, List.set_cons_succ]
  refine lv (by kernel_rfl) (some 66) rfl (v := ?_) ?_ ?_
  rotate_left
  · go_simp; try with_reducible rfl
  try simp only [Act.put, List.setIfInBounds_toArray, List.set_cons_zero, List.set_cons_succ]
  refine ly M21 (some 67) rfl (yi_cell 1 5 (.tmp 66) rfl (by kernel_rfl) rfl 5 rfl (.int .u8 (updn Y q v 5)) Try.underlying5 rfl) ?_
  try simp only [Act.put, List.setIfInBounds_toArray, List.set_cons_zero, List.set_cons_succ]
  refine lv (by kernel_rfl) (some 68) rfl (v := ?_) ?_ ?_
  rotate_left
  · go_simp; try with_reducible rfl
  try simp only [Act.put, List.setIfInBounds_toArray, List.set_cons_zero, List.set_cons_succ]
  refine ly M21 (some 69) rfl (yi_cell 1 5 (.tmp 68) rfl (by kernel_rfl) rfl 9 rfl (.int .u8 (updn Y q v 9)) Try.underlying5 rfl) ?_
  try simp only [Act.put, List.setIfInBounds_toArray, List.set_cons_zero, List.set_cons_succ]
  refine lv (by kernel_rfl) (some 70) rfl (v := ?_) ?_ ?_
  rotate_left
  · go_simp; try with_reducible rfl
  try simp only [Act.put, List.setIfInBounds_toArray, List.set_cons_zero, List.set_cons_succ]
  refine ly M21 (some 71) rfl (yi_cell 1 5 (.tmp 70) rfl (by kernel_rfl) rfl 13 rfl (.int .u8 (updn Y q v 13)) Try.underlying5 rfl) ?_
  try simp only [Act.put, List.setIfInBounds_toArray, List.set_cons_zero, List.set_cons_succ]
  refine lv (by kernel_rfl) (some 72) rfl (v := ?_) ?_ ?_
  rotate_left
  · go_simp; try with_reducible rfl
  try simp only [Act.put, List.setIfInBounds_toArray, List.set_cons_zero, List.set_cons_succ]
  refine ly M21 (some 73) rfl (yi_row 1 23 (.tmp 6) rfl (by kernel_rfl) rfl rfl Try.underlying23 rfl (by kernel_rfl)) ?_
  try simp only [Act.put, List.setIfInBounds_toArray, List.set_cons_zero, List.set_cons_succ]
  refine l_call (by kernel_rfl) (some 74) rfl (c4 _) (by kernel_rfl) (fun s22 hb22 => ?_)
  have M22 := M21.call hb22
  clear hb22 M21
  try simp only [Act.put, List.setIfInBounds_toArray, List.set_cons_zero, List.set_cons_succ]
  refine lv (by kernel_rfl) (some 75) rfl (v := ?_) ?_ ?_
  rotate_left
  · go_simp; try with_reducible rfl
  try simp only [Act.put, List.setIfInBounds_toArray, List.set_cons_zero, List.set_cons_succ]
  refine lv (by kernel_rfl) (some 10) rfl (v := ?_) ?_ ?_
  rotate_left
  · go_simp; try with_reducible rfl
  try simp only [Act.put, List.setIfInBounds_toArray, List.set_cons_zero, List.set_cons_succ]
  refine wpList_nil ?_
  go_wp2_with fail
  go_ret
  exact ⟨rfl, M22.below⟩
end Go.Proofs.Ytafonnelennlhaa
