/-
  The walks of the laws IcmpmapSays and IcmpmapOne: they return true, and what was there stays. Condition: the arguments fit their kinds.
-/
import Derived.Test.YtcppckpkiloilaaY
import Derived.Test.YtcppckpkiloilaaM
namespace Go.Proofs.Ytcppckpkiloilaa
open Go.RowKit
set_option linter.unusedSimpArgs false
set_option linter.unusedVariables false

theorem eq26r (x y z : Int) (s : ByteArray) (w : World) : (Op.equalIn 10000 26 (.agg #[.int .i64 x, .int .i64 y, .int .u32 z, .string s]) (.agg #[.int .i64 x, .int .i64 y, .int .u32 z, .string s])).run Try.prog w = .ok true w := by
  rw [eq26]; simp

set_option maxRecDepth 100000 in
set_option maxHeartbeats 4000000 in
theorem says_long (k c r : Int) (d : ByteArray) (a b n : Int) (w : World) (hr : 0 ≤ r) (hr' : r < 4294967296) (hl : (70000 : Int) < (d.size : Int)) :
    Calls Try.prog 6 #[msgV k c r d, .int .i64 a, .int .i64 b, .int .i64 n] w fun e w' => e = .returned (.bool true) ∧ Below w.heap.size w w' := by
  go_enter Try.func6, Try.ntmps6
  go_upto_region 1 with fail
  have M0 := (Mem.start w).new rfl 26 #[.int .i64 k, .int .i64 c, .int .u32 r, .string d]
  try simp only [List.cons_append, List.nil_append, List.set_cons_zero, List.set_cons_succ] at M0
  refine wp_region_lit ?_
  refine l_call (by kernel_rfl) (some 17) rfl (awake_any _) (by kernel_rfl) (fun s1 hb1 => ?_)
  have M1 := M0.call hb1
  clear hb1 M0
  try simp only [Act.put, List.setIfInBounds_toArray, List.set_cons_zero, List.set_cons_succ]
  refine lv (by kernel_rfl) (some 18) rfl (v := ?_) ?_ ?_
  rotate_left
  · go_simp; try with_reducible rfl
  try simp only [Act.put, List.setIfInBounds_toArray, List.set_cons_zero, List.set_cons_succ]
  refine wpList_nil ?_
  go_upto_region 3 with fail
  refine wp_region_lit ?_
  refine lv (by kernel_rfl) (some 19) rfl (v := ?_) ?_ ?_
  rotate_left
  · go_simp; try with_reducible rfl
  try simp only [Act.put, List.setIfInBounds_toArray, List.set_cons_zero, List.set_cons_succ]
  refine ly M1 (some 20) rfl (yi_cell 0 9 (.tmp 19) rfl (by kernel_rfl) rfl _ rfl (.string d) Try.underlying9 rfl rfl) ?_
  try simp only [Act.put, List.setIfInBounds_toArray, List.set_cons_zero, List.set_cons_succ]
  refine lv (by kernel_rfl) (some 21) rfl (v := ?_) ?_ ?_
  rotate_left
  · go_simp; try with_reducible rfl
  try simp only [Act.put, List.setIfInBounds_toArray, List.set_cons_zero, List.set_cons_succ]
  refine lv (by kernel_rfl) (some 22) rfl (v := ?_) ?_ ?_
  rotate_left
  · go_simp; try with_reducible rfl
  try simp only [Act.put, List.setIfInBounds_toArray, List.set_cons_zero, List.set_cons_succ]
  refine wpList_nil ?_
  go_upto_region 4 with fail
  refine wp_region_lit ?_
  refine lv (by kernel_rfl) (some 8) rfl (v := ?_) ?_ ?_
  rotate_left
  · go_simp; try with_reducible rfl
  try simp only [Act.put, List.setIfInBounds_toArray, List.set_cons_zero, List.set_cons_succ]
  refine wpList_nil ?_
  go_wp2_with fail
  go_ret
  exact ⟨rfl, M1.below⟩
set_option maxRecDepth 100000 in
set_option maxHeartbeats 4000000 in
theorem says_short (k c r : Int) (d : ByteArray) (a b n : Int) (w : World) (hr : 0 ≤ r) (hr' : r < 4294967296) (hl : ¬ (70000 : Int) < (d.size : Int)) :
    Calls Try.prog 6 #[msgV k c r d, .int .i64 a, .int .i64 b, .int .i64 n] w fun e w' => e = .returned (.bool true) ∧ Below w.heap.size w w' := by
  obtain ⟨x, hx⟩ : ∃ x, oK (t6 k c r a b n) = x := ⟨_, rfl⟩
  obtain ⟨y, hy⟩ : ∃ y, oC (t6 k c r a b n) = y := ⟨_, rfl⟩
  obtain ⟨z, hz⟩ : ∃ z, oR (t6 k c r a b n) = z := ⟨_, rfl⟩
  obtain ⟨s, hs⟩ : ∃ s, oS d (t6 k c r a b n) = s := ⟨_, rfl⟩
  obtain ⟨q, hq⟩ : ∃ q, (t6 k c r a b n).isSome = q := ⟨_, rfl⟩
  obtain ⟨x', hx'⟩ : ∃ x, oK (t4 k c r a b) = x := ⟨_, rfl⟩
  obtain ⟨y', hy'⟩ : ∃ y, oC (t4 k c r a b) = y := ⟨_, rfl⟩
  obtain ⟨z', hz'⟩ : ∃ z, oR (t4 k c r a b) = z := ⟨_, rfl⟩
  obtain ⟨s', hs'⟩ : ∃ s, oS d (t4 k c r a b) = s := ⟨_, rfl⟩
  obtain ⟨q', hq'⟩ : ∃ q, (t4 k c r a b).isSome = q := ⟨_, rfl⟩
  obtain ⟨m, hm⟩ : ∃ m, pl n = m := ⟨_, rfl⟩
  have c12 := fun w => to6_gen hr hr' rfl hx hy hz hs hq w
  have c15 := fun w => rto6_gen hr hr' rfl hx hy hz hs hq w
  have c13 := fun w => to4_gen hr hr' rfl hx' hy' hz' hs' hq' w
  have c16 := fun w => rto4_gen hr hr' rfl hx' hy' hz' hs' hq' w
  have c14 := fun w => plateau_is hm w
  have c17 := fun w => rplateau_is hm w
  have e6 := eq26r x y z s
  have e4 := eq26r x' y' z' s'
  clear hx hy hz hs hq hx' hy' hz' hs' hq' hm hr hr'
  go_enter Try.func6, Try.ntmps6
  go_upto_region 1 with fail
  have M0 := (Mem.start w).new rfl 26 #[.int .i64 k, .int .i64 c, .int .u32 r, .string d]
  try simp only [List.cons_append, List.nil_append, List.set_cons_zero, List.set_cons_succ] at M0
  refine wp_region_lit ?_
  refine l_call (by kernel_rfl) (some 17) rfl (awake_any _) (by kernel_rfl) (fun s1 hb1 => ?_)
  have M1 := M0.call hb1
  clear hb1 M0
  try simp only [Act.put, List.setIfInBounds_toArray, List.set_cons_zero, List.set_cons_succ]
  refine lv (by kernel_rfl) (some 18) rfl (v := ?_) ?_ ?_
  rotate_left
  · go_simp; try with_reducible rfl
  try simp only [Act.put, List.setIfInBounds_toArray, List.set_cons_zero, List.set_cons_succ]
  refine wpList_nil ?_
  go_upto_region 3 with fail
  refine wp_region_lit ?_
  refine lv (by kernel_rfl) (some 19) rfl (v := ?_) ?_ ?_
  rotate_left
  · go_simp; try with_reducible rfl
  try simp only [Act.put, List.setIfInBounds_toArray, List.set_cons_zero, List.set_cons_succ]
  refine ly M1 (some 20) rfl (yi_cell 0 9 (.tmp 19) rfl (by kernel_rfl) rfl _ rfl (.string d) Try.underlying9 rfl rfl) ?_
  try simp only [Act.put, List.setIfInBounds_toArray, List.set_cons_zero, List.set_cons_succ]
  refine lv (by kernel_rfl) (some 21) rfl (v := ?_) ?_ ?_
  rotate_left
  · go_simp; try with_reducible rfl
  try simp only [Act.put, List.setIfInBounds_toArray, List.set_cons_zero, List.set_cons_succ]
  refine lv (by kernel_rfl) (some 22) rfl (v := ?_) ?_ ?_
  rotate_left
  · go_simp; try with_reducible rfl
  try simp only [Act.put, List.setIfInBounds_toArray, List.set_cons_zero, List.set_cons_succ]
  refine wpList_nil ?_
  go_upto_region 5 with fail
  refine wp_region_lit ?_
  refine ly M1 (some 24) rfl (yi_row 0 26 (.tmp 4) rfl (by kernel_rfl) rfl rfl Try.underlying26 rfl (by kernel_rfl)) ?_
  try simp only [Act.put, List.setIfInBounds_toArray, List.set_cons_zero, List.set_cons_succ]
  refine lv (by kernel_rfl) (some 25) rfl (v := ?_) ?_ ?_
  rotate_left
  · go_simp; try with_reducible rfl
  try simp only [Act.put, List.setIfInBounds_toArray, List.set_cons_zero, List.set_cons_succ]
  refine lv (by kernel_rfl) (some 26) rfl (v := ?_) ?_ ?_
  rotate_left
  · go_simp; try with_reducible rfl
  try simp only [Act.put, List.setIfInBounds_toArray, List.set_cons_zero, List.set_cons_succ]
  refine lv (by kernel_rfl) (some 27) rfl (v := ?_) ?_ ?_
  rotate_left
  · go_simp; try with_reducible rfl
  try simp only [Act.put, List.setIfInBounds_toArray, List.set_cons_zero, List.set_cons_succ]
  refine l_call (by kernel_rfl) (some 28) rfl (c12 _) (by kernel_rfl) (fun s2 hb2 => ?_)
  have M2 := M1.call hb2
  clear hb2 M1
  try simp only [Act.put, List.setIfInBounds_toArray, List.set_cons_zero, List.set_cons_succ]
  refine lv (by kernel_rfl) (some 23) rfl (v := ?_) ?_ ?_
  rotate_left
  · go_simp; try with_reducible rfl
  try simp only [Act.put, List.setIfInBounds_toArray, List.set_cons_zero, List.set_cons_succ]
  refine lv (by kernel_rfl) (some 29) rfl (v := ?_) ?_ ?_
  rotate_left
  · go_simp; try with_reducible rfl
  try simp only [Act.put, List.setIfInBounds_toArray, List.set_cons_zero, List.set_cons_succ]
  refine lv (by kernel_rfl) (some 30) rfl (v := ?_) ?_ ?_
  rotate_left
  · go_simp; try with_reducible rfl
  try simp only [Act.put, List.setIfInBounds_toArray, List.set_cons_zero, List.set_cons_succ]
  refine l_alloc (by kernel_rfl) (some 9) rfl #[.int .i64 0, .int .i64 0, .int .u32 0, .string ⟨#[]⟩] 26 (by kernel_rfl) ?_
  have M3 := M2.new rfl 26 #[.int .i64 0, .int .i64 0, .int .u32 0, .string ⟨#[]⟩]
  clear M2
  try simp only [List.cons_append, List.nil_append, List.set_cons_zero, List.set_cons_succ] at M3
  try simp only [Act.put, List.setIfInBounds_toArray, List.set_cons_zero, List.set_cons_succ]
  refine l_store M3 1 (by kernel_rfl) 26 (.tmp 9) _ rfl rfl rfl rfl _ rfl (by kernel_rfl) (by rfl) (by kernel_rfl) _ rfl (fun s4 M4 => ?_)
  clear M3
  try simp only [List.cons_append, List.nil_append, List.set_cons_zero, List.set_cons_succ] at M4
  try simp only [Act.put, List.setIfInBounds_toArray, List.set_cons_zero, List.set_cons_succ]
  refine lv (by kernel_rfl) (some 10) rfl (v := ?_) ?_ ?_
  rotate_left
  · go_simp; try with_reducible rfl
  try simp only [Act.put, List.setIfInBounds_toArray, List.set_cons_zero, List.set_cons_succ]
  refine wpList_nil ?_
  go_upto_region 6 with fail
  refine wp_region_lit ?_
  refine ly M4 (some 32) rfl (yi_row 0 26 (.tmp 4) rfl (by kernel_rfl) rfl rfl Try.underlying26 rfl (by kernel_rfl)) ?_
  try simp only [Act.put, List.setIfInBounds_toArray, List.set_cons_zero, List.set_cons_succ]
  refine lv (by kernel_rfl) (some 33) rfl (v := ?_) ?_ ?_
  rotate_left
  · go_simp; try with_reducible rfl
  try simp only [Act.put, List.setIfInBounds_toArray, List.set_cons_zero, List.set_cons_succ]
  refine lv (by kernel_rfl) (some 34) rfl (v := ?_) ?_ ?_
  rotate_left
  · go_simp; try with_reducible rfl
  try simp only [Act.put, List.setIfInBounds_toArray, List.set_cons_zero, List.set_cons_succ]
  refine lv (by kernel_rfl) (some 35) rfl (v := ?_) ?_ ?_
  rotate_left
  · go_simp; try with_reducible rfl
  try simp only [Act.put, List.setIfInBounds_toArray, List.set_cons_zero, List.set_cons_succ]
  refine l_call (by kernel_rfl) (some 36) rfl (c15 _) (by kernel_rfl) (fun s5 hb5 => ?_)
  have M5 := M4.call hb5
  clear hb5 M4
  try simp only [Act.put, List.setIfInBounds_toArray, List.set_cons_zero, List.set_cons_succ]
  refine lv (by kernel_rfl) (some 31) rfl (v := ?_) ?_ ?_
  rotate_left
  · go_simp; try with_reducible rfl
  try simp only [Act.put, List.setIfInBounds_toArray, List.set_cons_zero, List.set_cons_succ]
  refine lv (by kernel_rfl) (some 37) rfl (v := ?_) ?_ ?_
  rotate_left
  · go_simp; try with_reducible rfl
  try simp only [Act.put, List.setIfInBounds_toArray, List.set_cons_zero, List.set_cons_succ]
  refine lv (by kernel_rfl) (some 38) rfl (v := ?_) ?_ ?_
  rotate_left
  · go_simp; try with_reducible rfl
  try simp only [Act.put, List.setIfInBounds_toArray, List.set_cons_zero, List.set_cons_succ]
  refine l_alloc (by kernel_rfl) (some 11) rfl #[.int .i64 0, .int .i64 0, .int .u32 0, .string ⟨#[]⟩] 26 (by kernel_rfl) ?_
  have M6 := M5.new rfl 26 #[.int .i64 0, .int .i64 0, .int .u32 0, .string ⟨#[]⟩]
  clear M5
  try simp only [List.cons_append, List.nil_append, List.set_cons_zero, List.set_cons_succ] at M6
  try simp only [Act.put, List.setIfInBounds_toArray, List.set_cons_zero, List.set_cons_succ]
  refine l_store M6 2 (by kernel_rfl) 26 (.tmp 11) _ rfl rfl rfl rfl _ rfl (by kernel_rfl) (by rfl) (by kernel_rfl) _ rfl (fun s7 M7 => ?_)
  clear M6
  try simp only [List.cons_append, List.nil_append, List.set_cons_zero, List.set_cons_succ] at M7
  try simp only [Act.put, List.setIfInBounds_toArray, List.set_cons_zero, List.set_cons_succ]
  refine lv (by kernel_rfl) (some 12) rfl (v := ?_) ?_ ?_
  rotate_left
  · go_simp; try with_reducible rfl
  try simp only [Act.put, List.setIfInBounds_toArray, List.set_cons_zero, List.set_cons_succ]
  refine wpList_nil ?_
  go_upto_region 7 with fail
  refine wp_region_lit ?_
  refine ly M7 (some 40) rfl (yi_row 0 26 (.tmp 4) rfl (by kernel_rfl) rfl rfl Try.underlying26 rfl (by kernel_rfl)) ?_
  try simp only [Act.put, List.setIfInBounds_toArray, List.set_cons_zero, List.set_cons_succ]
  refine lv (by kernel_rfl) (some 41) rfl (v := ?_) ?_ ?_
  rotate_left
  · go_simp; try with_reducible rfl
  try simp only [Act.put, List.setIfInBounds_toArray, List.set_cons_zero, List.set_cons_succ]
  refine lv (by kernel_rfl) (some 42) rfl (v := ?_) ?_ ?_
  rotate_left
  · go_simp; try with_reducible rfl
  try simp only [Act.put, List.setIfInBounds_toArray, List.set_cons_zero, List.set_cons_succ]
  refine l_call (by kernel_rfl) (some 43) rfl (c13 _) (by kernel_rfl) (fun s8 hb8 => ?_)
  have M8 := M7.call hb8
  clear hb8 M7
  try simp only [Act.put, List.setIfInBounds_toArray, List.set_cons_zero, List.set_cons_succ]
  refine lv (by kernel_rfl) (some 39) rfl (v := ?_) ?_ ?_
  rotate_left
  · go_simp; try with_reducible rfl
  try simp only [Act.put, List.setIfInBounds_toArray, List.set_cons_zero, List.set_cons_succ]
  refine lv (by kernel_rfl) (some 44) rfl (v := ?_) ?_ ?_
  rotate_left
  · go_simp; try with_reducible rfl
  try simp only [Act.put, List.setIfInBounds_toArray, List.set_cons_zero, List.set_cons_succ]
  refine lv (by kernel_rfl) (some 45) rfl (v := ?_) ?_ ?_
  rotate_left
  · go_simp; try with_reducible rfl
  try simp only [Act.put, List.setIfInBounds_toArray, List.set_cons_zero, List.set_cons_succ]
  refine l_alloc (by kernel_rfl) (some 13) rfl #[.int .i64 0, .int .i64 0, .int .u32 0, .string ⟨#[]⟩] 26 (by kernel_rfl) ?_
  have M9 := M8.new rfl 26 #[.int .i64 0, .int .i64 0, .int .u32 0, .string ⟨#[]⟩]
  clear M8
  try simp only [List.cons_append, List.nil_append, List.set_cons_zero, List.set_cons_succ] at M9
  try simp only [Act.put, List.setIfInBounds_toArray, List.set_cons_zero, List.set_cons_succ]
  refine l_store M9 3 (by kernel_rfl) 26 (.tmp 13) _ rfl rfl rfl rfl _ rfl (by kernel_rfl) (by rfl) (by kernel_rfl) _ rfl (fun s10 M10 => ?_)
  clear M9
  try simp only [List.cons_append, List.nil_append, List.set_cons_zero, List.set_cons_succ] at M10
  try simp only [Act.put, List.setIfInBounds_toArray, List.set_cons_zero, List.set_cons_succ]
  refine lv (by kernel_rfl) (some 14) rfl (v := ?_) ?_ ?_
  rotate_left
  · go_simp; try with_reducible rfl
  try simp only [Act.put, List.setIfInBounds_toArray, List.set_cons_zero, List.set_cons_succ]
  refine wpList_nil ?_
  go_upto_region 8 with fail
  refine wp_region_lit ?_
  refine ly M10 (some 47) rfl (yi_row 0 26 (.tmp 4) rfl (by kernel_rfl) rfl rfl Try.underlying26 rfl (by kernel_rfl)) ?_
  try simp only [Act.put, List.setIfInBounds_toArray, List.set_cons_zero, List.set_cons_succ]
  refine lv (by kernel_rfl) (some 48) rfl (v := ?_) ?_ ?_
  rotate_left
  · go_simp; try with_reducible rfl
  try simp only [Act.put, List.setIfInBounds_toArray, List.set_cons_zero, List.set_cons_succ]
  refine lv (by kernel_rfl) (some 49) rfl (v := ?_) ?_ ?_
  rotate_left
  · go_simp; try with_reducible rfl
  try simp only [Act.put, List.setIfInBounds_toArray, List.set_cons_zero, List.set_cons_succ]
  refine l_call (by kernel_rfl) (some 50) rfl (c16 _) (by kernel_rfl) (fun s11 hb11 => ?_)
  have M11 := M10.call hb11
  clear hb11 M10
  try simp only [Act.put, List.setIfInBounds_toArray, List.set_cons_zero, List.set_cons_succ]
  refine lv (by kernel_rfl) (some 46) rfl (v := ?_) ?_ ?_
  rotate_left
  · go_simp; try with_reducible rfl
  try simp only [Act.put, List.setIfInBounds_toArray, List.set_cons_zero, List.set_cons_succ]
  refine lv (by kernel_rfl) (some 51) rfl (v := ?_) ?_ ?_
  rotate_left
  · go_simp; try with_reducible rfl
  try simp only [Act.put, List.setIfInBounds_toArray, List.set_cons_zero, List.set_cons_succ]
  refine lv (by kernel_rfl) (some 52) rfl (v := ?_) ?_ ?_
  rotate_left
  · go_simp; try with_reducible rfl
  try simp only [Act.put, List.setIfInBounds_toArray, List.set_cons_zero, List.set_cons_succ]
  refine l_alloc (by kernel_rfl) (some 15) rfl #[.int .i64 0, .int .i64 0, .int .u32 0, .string ⟨#[]⟩] 26 (by kernel_rfl) ?_
  have M12 := M11.new rfl 26 #[.int .i64 0, .int .i64 0, .int .u32 0, .string ⟨#[]⟩]
  clear M11
  try simp only [List.cons_append, List.nil_append, List.set_cons_zero, List.set_cons_succ] at M12
  try simp only [Act.put, List.setIfInBounds_toArray, List.set_cons_zero, List.set_cons_succ]
  refine l_store M12 4 (by kernel_rfl) 26 (.tmp 15) _ rfl rfl rfl rfl _ rfl (by kernel_rfl) (by rfl) (by kernel_rfl) _ rfl (fun s13 M13 => ?_)
  clear M12
  try simp only [List.cons_append, List.nil_append, List.set_cons_zero, List.set_cons_succ] at M13
  try simp only [Act.put, List.setIfInBounds_toArray, List.set_cons_zero, List.set_cons_succ]
  refine lv (by kernel_rfl) (some 16) rfl (v := ?_) ?_ ?_
  rotate_left
  · go_simp; try with_reducible rfl
  try simp only [Act.put, List.setIfInBounds_toArray, List.set_cons_zero, List.set_cons_succ]
  refine wpList_nil ?_
  go_upto_region 9 with fail
  refine wp_region_lit ?_
  refine ly M13 (some 53) rfl (yi_row 1 26 (.tmp 9) rfl (by kernel_rfl) rfl rfl Try.underlying26 rfl (by kernel_rfl)) ?_
  try simp only [Act.put, List.setIfInBounds_toArray, List.set_cons_zero, List.set_cons_succ]
  refine ly M13 (some 54) rfl (yi_row 2 26 (.tmp 11) rfl (by kernel_rfl) rfl rfl Try.underlying26 rfl (by kernel_rfl)) ?_
  try simp only [Act.put, List.setIfInBounds_toArray, List.set_cons_zero, List.set_cons_succ]
  refine lv (by kernel_rfl) (some 55) rfl (v := ?_) ?_ ?_
  rotate_left
  · go_simp; try with_reducible rfl
  try simp only [Act.put, List.setIfInBounds_toArray, List.set_cons_zero, List.set_cons_succ]
  refine lv (by kernel_rfl) (some 56) rfl (v := ?_) ?_ ?_
  rotate_left
  · go_simp; try with_reducible rfl
  try simp only [Act.put, List.setIfInBounds_toArray, List.set_cons_zero, List.set_cons_succ]
  refine lv (by kernel_rfl) (some 57) rfl (v := ?_) ?_ ?_
  rotate_left
  · go_simp; try with_reducible rfl
  try simp only [Act.put, List.setIfInBounds_toArray, List.set_cons_zero, List.set_cons_succ]
  refine lv (by kernel_rfl) (some 58) rfl (v := ?_) ?_ ?_
  rotate_left
  · go_simp; try with_reducible rfl
  try simp only [Act.put, List.setIfInBounds_toArray, List.set_cons_zero, List.set_cons_succ]
  refine lv (by kernel_rfl) (some 59) rfl (v := ?_) ?_ ?_
  rotate_left
  · go_simp; try with_reducible rfl
  try simp only [Act.put, List.setIfInBounds_toArray, List.set_cons_zero, List.set_cons_succ]
  refine lv (by kernel_rfl) (some 60) rfl (v := ?_) ?_ ?_
  rotate_left
  · go_simp; try with_reducible rfl
  try simp only [Act.put, List.setIfInBounds_toArray, List.set_cons_zero, List.set_cons_succ]
  refine lv (by kernel_rfl) (some 61) rfl (v := ?_) ?_ ?_
  rotate_left
  · go_simp; try with_reducible rfl
  try simp only [Act.put, List.setIfInBounds_toArray, List.set_cons_zero, List.set_cons_succ]
  refine ly M13 (some 62) rfl (yi_row 3 26 (.tmp 13) rfl (by kernel_rfl) rfl rfl Try.underlying26 rfl (by kernel_rfl)) ?_
  try simp only [Act.put, List.setIfInBounds_toArray, List.set_cons_zero, List.set_cons_succ]
  refine ly M13 (some 63) rfl (yi_row 4 26 (.tmp 15) rfl (by kernel_rfl) rfl rfl Try.underlying26 rfl (by kernel_rfl)) ?_
  try simp only [Act.put, List.setIfInBounds_toArray, List.set_cons_zero, List.set_cons_succ]
  refine lv (by kernel_rfl) (some 64) rfl (v := ?_) ?_ ?_
  rotate_left
  · go_simp; try with_reducible rfl
  try simp only [Act.put, List.setIfInBounds_toArray, List.set_cons_zero, List.set_cons_succ]
  refine lv (by kernel_rfl) (some 65) rfl (v := ?_) ?_ ?_
  rotate_left
  · go_simp; try with_reducible rfl
  try simp only [Act.put, List.setIfInBounds_toArray, List.set_cons_zero, List.set_cons_succ]
  refine lv (by kernel_rfl) (some 66) rfl (v := ?_) ?_ ?_
  rotate_left
  · go_simp; try with_reducible rfl
  try simp only [Act.put, List.setIfInBounds_toArray, List.set_cons_zero, List.set_cons_succ]
  refine lv (by kernel_rfl) (some 67) rfl (v := ?_) ?_ ?_
  rotate_left
  · go_simp; try with_reducible rfl
  try simp only [Act.put, List.setIfInBounds_toArray, List.set_cons_zero, List.set_cons_succ]
  refine lv (by kernel_rfl) (some 68) rfl (v := ?_) ?_ ?_
  rotate_left
  · go_simp; try with_reducible rfl
  try simp only [Act.put, List.setIfInBounds_toArray, List.set_cons_zero, List.set_cons_succ]
  refine lv (by kernel_rfl) (some 69) rfl (v := ?_) ?_ ?_
  rotate_left
  · go_simp; try with_reducible rfl
  try simp only [Act.put, List.setIfInBounds_toArray, List.set_cons_zero, List.set_cons_succ]
  refine lv (by kernel_rfl) (some 70) rfl (v := ?_) ?_ ?_
  rotate_left
  · go_simp; try with_reducible rfl
  try simp only [Act.put, List.setIfInBounds_toArray, List.set_cons_zero, List.set_cons_succ]
  refine lv (by kernel_rfl) (some 71) rfl (v := ?_) ?_ ?_
  rotate_left
  · go_simp; try with_reducible rfl
  try simp only [Act.put, List.setIfInBounds_toArray, List.set_cons_zero, List.set_cons_succ]
  refine lv (by kernel_rfl) (some 72) rfl (v := ?_) ?_ ?_
  rotate_left
  · go_simp; try with_reducible rfl
  try simp only [Act.put, List.setIfInBounds_toArray, List.set_cons_zero, List.set_cons_succ]
  refine l_call (by kernel_rfl) (some 73) rfl (c14 _) (by kernel_rfl) (fun s14 hb14 => ?_)
  have M14 := M13.call hb14
  clear hb14 M13
  try simp only [Act.put, List.setIfInBounds_toArray, List.set_cons_zero, List.set_cons_succ]
  refine lv (by kernel_rfl) (some 74) rfl (v := ?_) ?_ ?_
  rotate_left
  · go_simp; try with_reducible rfl
  try simp only [Act.put, List.setIfInBounds_toArray, List.set_cons_zero, List.set_cons_succ]
  refine l_call (by kernel_rfl) (some 75) rfl (c17 _) (by kernel_rfl) (fun s15 hb15 => ?_)
  have M15 := M14.call hb15
  clear hb15 M14
  try simp only [Act.put, List.setIfInBounds_toArray, List.set_cons_zero, List.set_cons_succ]
  refine lv (by kernel_rfl) (some 76) rfl (v := ?_) ?_ ?_
  rotate_left
  · go_simp; try with_reducible rfl
  try simp only [Act.put, List.setIfInBounds_toArray, List.set_cons_zero, List.set_cons_succ]
  refine lv (by kernel_rfl) (some 77) rfl (v := ?_) ?_ ?_
  rotate_left
  · go_simp; try with_reducible rfl
  try simp only [Act.put, List.setIfInBounds_toArray, List.set_cons_zero, List.set_cons_succ]
  refine lv (by kernel_rfl) (some 8) rfl (v := ?_) ?_ ?_
  rotate_left
  · go_simp; try with_reducible rfl
  try simp only [Act.put, List.setIfInBounds_toArray, List.set_cons_zero, List.set_cons_succ]
  refine wpList_nil ?_
  go_wp2_with fail
  go_ret
  exact ⟨rfl, M15.below⟩
set_option maxRecDepth 100000 in
set_option maxHeartbeats 4000000 in
theorem one_long (k c r : Int) (d : ByteArray) (a b n : Int) (w : World) (hr : 0 ≤ r) (hr' : r < 4294967296) (hl : (100 : Int) < (d.size : Int)) :
    Calls Try.prog 8 #[msgV k c r d, .int .i64 a, .int .i64 b, .int .i64 n] w fun e w' => e = .returned (.bool true) ∧ Below w.heap.size w w' := by
  go_enter Try.func8, Try.ntmps8
  go_upto_region 1 with fail
  have M0 := (Mem.start w).new rfl 26 #[.int .i64 k, .int .i64 c, .int .u32 r, .string d]
  try simp only [List.cons_append, List.nil_append, List.set_cons_zero, List.set_cons_succ] at M0
  refine wp_region_lit ?_
  refine lv (by kernel_rfl) (some 17) rfl (v := ?_) ?_ ?_
  rotate_left
  · go_simp; try with_reducible rfl
  try simp only [Act.put, List.setIfInBounds_toArray, List.set_cons_zero, List.set_cons_succ]
  refine ly M0 (some 18) rfl (yi_cell 0 9 (.tmp 17) rfl (by kernel_rfl) rfl _ rfl (.string d) Try.underlying9 rfl rfl) ?_
  try simp only [Act.put, List.setIfInBounds_toArray, List.set_cons_zero, List.set_cons_succ]
  refine lv (by kernel_rfl) (some 19) rfl (v := ?_) ?_ ?_
  rotate_left
  · go_simp; try with_reducible rfl
  try simp only [Act.put, List.setIfInBounds_toArray, List.set_cons_zero, List.set_cons_succ]
  refine lv (by kernel_rfl) (some 20) rfl (v := ?_) ?_ ?_
  rotate_left
  · go_simp; try with_reducible rfl
  try simp only [Act.put, List.setIfInBounds_toArray, List.set_cons_zero, List.set_cons_succ]
  refine wpList_nil ?_
  go_upto_region 2 with fail
  refine wp_region_lit ?_
  refine l_call (by kernel_rfl) (some 21) rfl (awake_any _) (by kernel_rfl) (fun s1 hb1 => ?_)
  have M1 := M0.call hb1
  clear hb1 M0
  try simp only [Act.put, List.setIfInBounds_toArray, List.set_cons_zero, List.set_cons_succ]
  refine lv (by kernel_rfl) (some 8) rfl (v := ?_) ?_ ?_
  rotate_left
  · go_simp; try with_reducible rfl
  try simp only [Act.put, List.setIfInBounds_toArray, List.set_cons_zero, List.set_cons_succ]
  refine wpList_nil ?_
  go_wp2_with fail
  go_ret
  exact ⟨rfl, M1.below⟩
set_option maxRecDepth 100000 in
set_option maxHeartbeats 4000000 in
theorem one_short (k c r : Int) (d : ByteArray) (a b n : Int) (w : World) (hr : 0 ≤ r) (hr' : r < 4294967296) (hl : ¬ (100 : Int) < (d.size : Int)) :
    Calls Try.prog 8 #[msgV k c r d, .int .i64 a, .int .i64 b, .int .i64 n] w fun e w' => e = .returned (.bool true) ∧ Below w.heap.size w w' := by
  obtain ⟨x, hx⟩ : ∃ x, oK (t6 k c r a b n) = x := ⟨_, rfl⟩
  obtain ⟨y, hy⟩ : ∃ y, oC (t6 k c r a b n) = y := ⟨_, rfl⟩
  obtain ⟨z, hz⟩ : ∃ z, oR (t6 k c r a b n) = z := ⟨_, rfl⟩
  obtain ⟨s, hs⟩ : ∃ s, oS d (t6 k c r a b n) = s := ⟨_, rfl⟩
  obtain ⟨q, hq⟩ : ∃ q, (t6 k c r a b n).isSome = q := ⟨_, rfl⟩
  obtain ⟨x', hx'⟩ : ∃ x, oK (t4 k c r a b) = x := ⟨_, rfl⟩
  obtain ⟨y', hy'⟩ : ∃ y, oC (t4 k c r a b) = y := ⟨_, rfl⟩
  obtain ⟨z', hz'⟩ : ∃ z, oR (t4 k c r a b) = z := ⟨_, rfl⟩
  obtain ⟨s', hs'⟩ : ∃ s, oS d (t4 k c r a b) = s := ⟨_, rfl⟩
  obtain ⟨q', hq'⟩ : ∃ q, (t4 k c r a b).isSome = q := ⟨_, rfl⟩
  obtain ⟨m, hm⟩ : ∃ m, pl n = m := ⟨_, rfl⟩
  have c12 := fun w => to6_gen hr hr' rfl hx hy hz hs hq w
  have c15 := fun w => rto6_gen hr hr' rfl hx hy hz hs hq w
  have c13 := fun w => to4_gen hr hr' rfl hx' hy' hz' hs' hq' w
  have c16 := fun w => rto4_gen hr hr' rfl hx' hy' hz' hs' hq' w
  have c14 := fun w => plateau_is hm w
  have c17 := fun w => rplateau_is hm w
  have e6 := eq26r x y z s
  have e4 := eq26r x' y' z' s'
  clear hx hy hz hs hq hx' hy' hz' hs' hq' hm hr hr'
  go_enter Try.func8, Try.ntmps8
  go_upto_region 1 with fail
  have M0 := (Mem.start w).new rfl 26 #[.int .i64 k, .int .i64 c, .int .u32 r, .string d]
  try simp only [List.cons_append, List.nil_append, List.set_cons_zero, List.set_cons_succ] at M0
  refine wp_region_lit ?_
  refine lv (by kernel_rfl) (some 17) rfl (v := ?_) ?_ ?_
  rotate_left
  · go_simp; try with_reducible rfl
  try simp only [Act.put, List.setIfInBounds_toArray, List.set_cons_zero, List.set_cons_succ]
  refine ly M0 (some 18) rfl (yi_cell 0 9 (.tmp 17) rfl (by kernel_rfl) rfl _ rfl (.string d) Try.underlying9 rfl rfl) ?_
  try simp only [Act.put, List.setIfInBounds_toArray, List.set_cons_zero, List.set_cons_succ]
  refine lv (by kernel_rfl) (some 19) rfl (v := ?_) ?_ ?_
  rotate_left
  · go_simp; try with_reducible rfl
  try simp only [Act.put, List.setIfInBounds_toArray, List.set_cons_zero, List.set_cons_succ]
  refine lv (by kernel_rfl) (some 20) rfl (v := ?_) ?_ ?_
  rotate_left
  · go_simp; try with_reducible rfl
  try simp only [Act.put, List.setIfInBounds_toArray, List.set_cons_zero, List.set_cons_succ]
  refine wpList_nil ?_
  go_upto_region 3 with fail
  refine wp_region_lit ?_
  refine ly M0 (some 23) rfl (yi_row 0 26 (.tmp 4) rfl (by kernel_rfl) rfl rfl Try.underlying26 rfl (by kernel_rfl)) ?_
  try simp only [Act.put, List.setIfInBounds_toArray, List.set_cons_zero, List.set_cons_succ]
  refine lv (by kernel_rfl) (some 24) rfl (v := ?_) ?_ ?_
  rotate_left
  · go_simp; try with_reducible rfl
  try simp only [Act.put, List.setIfInBounds_toArray, List.set_cons_zero, List.set_cons_succ]
  refine lv (by kernel_rfl) (some 25) rfl (v := ?_) ?_ ?_
  rotate_left
  · go_simp; try with_reducible rfl
  try simp only [Act.put, List.setIfInBounds_toArray, List.set_cons_zero, List.set_cons_succ]
  refine lv (by kernel_rfl) (some 26) rfl (v := ?_) ?_ ?_
  rotate_left
  · go_simp; try with_reducible rfl
  try simp only [Act.put, List.setIfInBounds_toArray, List.set_cons_zero, List.set_cons_succ]
  refine l_call (by kernel_rfl) (some 27) rfl (c12 _) (by kernel_rfl) (fun s1 hb1 => ?_)
  have M1 := M0.call hb1
  clear hb1 M0
  try simp only [Act.put, List.setIfInBounds_toArray, List.set_cons_zero, List.set_cons_succ]
  refine lv (by kernel_rfl) (some 22) rfl (v := ?_) ?_ ?_
  rotate_left
  · go_simp; try with_reducible rfl
  try simp only [Act.put, List.setIfInBounds_toArray, List.set_cons_zero, List.set_cons_succ]
  refine lv (by kernel_rfl) (some 28) rfl (v := ?_) ?_ ?_
  rotate_left
  · go_simp; try with_reducible rfl
  try simp only [Act.put, List.setIfInBounds_toArray, List.set_cons_zero, List.set_cons_succ]
  refine lv (by kernel_rfl) (some 29) rfl (v := ?_) ?_ ?_
  rotate_left
  · go_simp; try with_reducible rfl
  try simp only [Act.put, List.setIfInBounds_toArray, List.set_cons_zero, List.set_cons_succ]
  refine l_alloc (by kernel_rfl) (some 9) rfl #[.int .i64 0, .int .i64 0, .int .u32 0, .string ⟨#[]⟩] 26 (by kernel_rfl) ?_
  have M2 := M1.new rfl 26 #[.int .i64 0, .int .i64 0, .int .u32 0, .string ⟨#[]⟩]
  clear M1
  try simp only [List.cons_append, List.nil_append, List.set_cons_zero, List.set_cons_succ] at M2
  try simp only [Act.put, List.setIfInBounds_toArray, List.set_cons_zero, List.set_cons_succ]
  refine l_store M2 1 (by kernel_rfl) 26 (.tmp 9) _ rfl rfl rfl rfl _ rfl (by kernel_rfl) (by rfl) (by kernel_rfl) _ rfl (fun s3 M3 => ?_)
  clear M2
  try simp only [List.cons_append, List.nil_append, List.set_cons_zero, List.set_cons_succ] at M3
  try simp only [Act.put, List.setIfInBounds_toArray, List.set_cons_zero, List.set_cons_succ]
  refine lv (by kernel_rfl) (some 10) rfl (v := ?_) ?_ ?_
  rotate_left
  · go_simp; try with_reducible rfl
  try simp only [Act.put, List.setIfInBounds_toArray, List.set_cons_zero, List.set_cons_succ]
  refine wpList_nil ?_
  go_upto_region 4 with fail
  refine wp_region_lit ?_
  refine ly M3 (some 31) rfl (yi_row 0 26 (.tmp 4) rfl (by kernel_rfl) rfl rfl Try.underlying26 rfl (by kernel_rfl)) ?_
  try simp only [Act.put, List.setIfInBounds_toArray, List.set_cons_zero, List.set_cons_succ]
  refine lv (by kernel_rfl) (some 32) rfl (v := ?_) ?_ ?_
  rotate_left
  · go_simp; try with_reducible rfl
  try simp only [Act.put, List.setIfInBounds_toArray, List.set_cons_zero, List.set_cons_succ]
  refine lv (by kernel_rfl) (some 33) rfl (v := ?_) ?_ ?_
  rotate_left
  · go_simp; try with_reducible rfl
  try simp only [Act.put, List.setIfInBounds_toArray, List.set_cons_zero, List.set_cons_succ]
  refine lv (by kernel_rfl) (some 34) rfl (v := ?_) ?_ ?_
  rotate_left
  · go_simp; try with_reducible rfl
  try simp only [Act.put, List.setIfInBounds_toArray, List.set_cons_zero, List.set_cons_succ]
  refine l_call (by kernel_rfl) (some 35) rfl (c15 _) (by kernel_rfl) (fun s4 hb4 => ?_)
  have M4 := M3.call hb4
  clear hb4 M3
  try simp only [Act.put, List.setIfInBounds_toArray, List.set_cons_zero, List.set_cons_succ]
  refine lv (by kernel_rfl) (some 30) rfl (v := ?_) ?_ ?_
  rotate_left
  · go_simp; try with_reducible rfl
  try simp only [Act.put, List.setIfInBounds_toArray, List.set_cons_zero, List.set_cons_succ]
  refine lv (by kernel_rfl) (some 36) rfl (v := ?_) ?_ ?_
  rotate_left
  · go_simp; try with_reducible rfl
  try simp only [Act.put, List.setIfInBounds_toArray, List.set_cons_zero, List.set_cons_succ]
  refine lv (by kernel_rfl) (some 37) rfl (v := ?_) ?_ ?_
  rotate_left
  · go_simp; try with_reducible rfl
  try simp only [Act.put, List.setIfInBounds_toArray, List.set_cons_zero, List.set_cons_succ]
  refine l_alloc (by kernel_rfl) (some 11) rfl #[.int .i64 0, .int .i64 0, .int .u32 0, .string ⟨#[]⟩] 26 (by kernel_rfl) ?_
  have M5 := M4.new rfl 26 #[.int .i64 0, .int .i64 0, .int .u32 0, .string ⟨#[]⟩]
  clear M4
  try simp only [List.cons_append, List.nil_append, List.set_cons_zero, List.set_cons_succ] at M5
  try simp only [Act.put, List.setIfInBounds_toArray, List.set_cons_zero, List.set_cons_succ]
  refine l_store M5 2 (by kernel_rfl) 26 (.tmp 11) _ rfl rfl rfl rfl _ rfl (by kernel_rfl) (by rfl) (by kernel_rfl) _ rfl (fun s6 M6 => ?_)
  clear M5
  try simp only [List.cons_append, List.nil_append, List.set_cons_zero, List.set_cons_succ] at M6
  try simp only [Act.put, List.setIfInBounds_toArray, List.set_cons_zero, List.set_cons_succ]
  refine lv (by kernel_rfl) (some 12) rfl (v := ?_) ?_ ?_
  rotate_left
  · go_simp; try with_reducible rfl
  try simp only [Act.put, List.setIfInBounds_toArray, List.set_cons_zero, List.set_cons_succ]
  refine wpList_nil ?_
  go_upto_region 5 with fail
  refine wp_region_lit ?_
  refine ly M6 (some 39) rfl (yi_row 0 26 (.tmp 4) rfl (by kernel_rfl) rfl rfl Try.underlying26 rfl (by kernel_rfl)) ?_
  try simp only [Act.put, List.setIfInBounds_toArray, List.set_cons_zero, List.set_cons_succ]
  refine lv (by kernel_rfl) (some 40) rfl (v := ?_) ?_ ?_
  rotate_left
  · go_simp; try with_reducible rfl
  try simp only [Act.put, List.setIfInBounds_toArray, List.set_cons_zero, List.set_cons_succ]
  refine lv (by kernel_rfl) (some 41) rfl (v := ?_) ?_ ?_
  rotate_left
  · go_simp; try with_reducible rfl
  try simp only [Act.put, List.setIfInBounds_toArray, List.set_cons_zero, List.set_cons_succ]
  refine l_call (by kernel_rfl) (some 42) rfl (c13 _) (by kernel_rfl) (fun s7 hb7 => ?_)
  have M7 := M6.call hb7
  clear hb7 M6
  try simp only [Act.put, List.setIfInBounds_toArray, List.set_cons_zero, List.set_cons_succ]
  refine lv (by kernel_rfl) (some 38) rfl (v := ?_) ?_ ?_
  rotate_left
  · go_simp; try with_reducible rfl
  try simp only [Act.put, List.setIfInBounds_toArray, List.set_cons_zero, List.set_cons_succ]
  refine lv (by kernel_rfl) (some 43) rfl (v := ?_) ?_ ?_
  rotate_left
  · go_simp; try with_reducible rfl
  try simp only [Act.put, List.setIfInBounds_toArray, List.set_cons_zero, List.set_cons_succ]
  refine lv (by kernel_rfl) (some 44) rfl (v := ?_) ?_ ?_
  rotate_left
  · go_simp; try with_reducible rfl
  try simp only [Act.put, List.setIfInBounds_toArray, List.set_cons_zero, List.set_cons_succ]
  refine l_alloc (by kernel_rfl) (some 13) rfl #[.int .i64 0, .int .i64 0, .int .u32 0, .string ⟨#[]⟩] 26 (by kernel_rfl) ?_
  have M8 := M7.new rfl 26 #[.int .i64 0, .int .i64 0, .int .u32 0, .string ⟨#[]⟩]
  clear M7
  try simp only [List.cons_append, List.nil_append, List.set_cons_zero, List.set_cons_succ] at M8
  try simp only [Act.put, List.setIfInBounds_toArray, List.set_cons_zero, List.set_cons_succ]
  refine l_store M8 3 (by kernel_rfl) 26 (.tmp 13) _ rfl rfl rfl rfl _ rfl (by kernel_rfl) (by rfl) (by kernel_rfl) _ rfl (fun s9 M9 => ?_)
  clear M8
  try simp only [List.cons_append, List.nil_append, List.set_cons_zero, List.set_cons_succ] at M9
  try simp only [Act.put, List.setIfInBounds_toArray, List.set_cons_zero, List.set_cons_succ]
  refine lv (by kernel_rfl) (some 14) rfl (v := ?_) ?_ ?_
  rotate_left
  · go_simp; try with_reducible rfl
  try simp only [Act.put, List.setIfInBounds_toArray, List.set_cons_zero, List.set_cons_succ]
  refine wpList_nil ?_
  go_upto_region 6 with fail
  refine wp_region_lit ?_
  refine ly M9 (some 46) rfl (yi_row 0 26 (.tmp 4) rfl (by kernel_rfl) rfl rfl Try.underlying26 rfl (by kernel_rfl)) ?_
  try simp only [Act.put, List.setIfInBounds_toArray, List.set_cons_zero, List.set_cons_succ]
  refine lv (by kernel_rfl) (some 47) rfl (v := ?_) ?_ ?_
  rotate_left
  · go_simp; try with_reducible rfl
  try simp only [Act.put, List.setIfInBounds_toArray, List.set_cons_zero, List.set_cons_succ]
  refine lv (by kernel_rfl) (some 48) rfl (v := ?_) ?_ ?_
  rotate_left
  · go_simp; try with_reducible rfl
  try simp only [Act.put, List.setIfInBounds_toArray, List.set_cons_zero, List.set_cons_succ]
  refine l_call (by kernel_rfl) (some 49) rfl (c16 _) (by kernel_rfl) (fun s10 hb10 => ?_)
  have M10 := M9.call hb10
  clear hb10 M9
  try simp only [Act.put, List.setIfInBounds_toArray, List.set_cons_zero, List.set_cons_succ]
  refine lv (by kernel_rfl) (some 45) rfl (v := ?_) ?_ ?_
  rotate_left
  · go_simp; try with_reducible rfl
  try simp only [Act.put, List.setIfInBounds_toArray, List.set_cons_zero, List.set_cons_succ]
  refine lv (by kernel_rfl) (some 50) rfl (v := ?_) ?_ ?_
  rotate_left
  · go_simp; try with_reducible rfl
  try simp only [Act.put, List.setIfInBounds_toArray, List.set_cons_zero, List.set_cons_succ]
  refine lv (by kernel_rfl) (some 51) rfl (v := ?_) ?_ ?_
  rotate_left
  · go_simp; try with_reducible rfl
  try simp only [Act.put, List.setIfInBounds_toArray, List.set_cons_zero, List.set_cons_succ]
  refine l_alloc (by kernel_rfl) (some 15) rfl #[.int .i64 0, .int .i64 0, .int .u32 0, .string ⟨#[]⟩] 26 (by kernel_rfl) ?_
  have M11 := M10.new rfl 26 #[.int .i64 0, .int .i64 0, .int .u32 0, .string ⟨#[]⟩]
  clear M10
  try simp only [List.cons_append, List.nil_append, List.set_cons_zero, List.set_cons_succ] at M11
  try simp only [Act.put, List.setIfInBounds_toArray, List.set_cons_zero, List.set_cons_succ]
  refine l_store M11 4 (by kernel_rfl) 26 (.tmp 15) _ rfl rfl rfl rfl _ rfl (by kernel_rfl) (by rfl) (by kernel_rfl) _ rfl (fun s12 M12 => ?_)
  clear M11
  try simp only [List.cons_append, List.nil_append, List.set_cons_zero, List.set_cons_succ] at M12
  try simp only [Act.put, List.setIfInBounds_toArray, List.set_cons_zero, List.set_cons_succ]
  refine lv (by kernel_rfl) (some 16) rfl (v := ?_) ?_ ?_
  rotate_left
  · go_simp; try with_reducible rfl
  try simp only [Act.put, List.setIfInBounds_toArray, List.set_cons_zero, List.set_cons_succ]
  refine wpList_nil ?_
  go_upto_region 7 with fail
  refine wp_region_lit ?_
  refine l_call (by kernel_rfl) (some 52) rfl (awake_any _) (by kernel_rfl) (fun s13 hb13 => ?_)
  have M13 := M12.call hb13
  clear hb13 M12
  try simp only [Act.put, List.setIfInBounds_toArray, List.set_cons_zero, List.set_cons_succ]
  refine lv (by kernel_rfl) (some 53) rfl (v := ?_) ?_ ?_
  rotate_left
  · go_simp; try with_reducible rfl
  try simp only [Act.put, List.setIfInBounds_toArray, List.set_cons_zero, List.set_cons_succ]
  refine ly M13 (some 54) rfl (yi_row 1 26 (.tmp 9) rfl (by kernel_rfl) rfl rfl Try.underlying26 rfl (by kernel_rfl)) ?_
  try simp only [Act.put, List.setIfInBounds_toArray, List.set_cons_zero, List.set_cons_succ]
  refine ly M13 (some 55) rfl (yi_row 2 26 (.tmp 11) rfl (by kernel_rfl) rfl rfl Try.underlying26 rfl (by kernel_rfl)) ?_
  try simp only [Act.put, List.setIfInBounds_toArray, List.set_cons_zero, List.set_cons_succ]
  refine lv (by kernel_rfl) (some 56) rfl (v := ?_) ?_ ?_
  rotate_left
  · go_simp; try with_reducible rfl
  try simp only [Act.put, List.setIfInBounds_toArray, List.set_cons_zero, List.set_cons_succ]
  refine lv (by kernel_rfl) (some 57) rfl (v := ?_) ?_ ?_
  rotate_left
  · go_simp; try with_reducible rfl
  try simp only [Act.put, List.setIfInBounds_toArray, List.set_cons_zero, List.set_cons_succ]
  refine lv (by kernel_rfl) (some 58) rfl (v := ?_) ?_ ?_
  rotate_left
  · go_simp; try with_reducible rfl
  try simp only [Act.put, List.setIfInBounds_toArray, List.set_cons_zero, List.set_cons_succ]
  refine lv (by kernel_rfl) (some 59) rfl (v := ?_) ?_ ?_
  rotate_left
  · go_simp; try with_reducible rfl
  try simp only [Act.put, List.setIfInBounds_toArray, List.set_cons_zero, List.set_cons_succ]
  refine lv (by kernel_rfl) (some 60) rfl (v := ?_) ?_ ?_
  rotate_left
  · go_simp; try with_reducible rfl
  try simp only [Act.put, List.setIfInBounds_toArray, List.set_cons_zero, List.set_cons_succ]
  refine lv (by kernel_rfl) (some 61) rfl (v := ?_) ?_ ?_
  rotate_left
  · go_simp; try with_reducible rfl
  try simp only [Act.put, List.setIfInBounds_toArray, List.set_cons_zero, List.set_cons_succ]
  refine lv (by kernel_rfl) (some 62) rfl (v := ?_) ?_ ?_
  rotate_left
  · go_simp; try with_reducible rfl
  try simp only [Act.put, List.setIfInBounds_toArray, List.set_cons_zero, List.set_cons_succ]
  refine lv (by kernel_rfl) (some 63) rfl (v := ?_) ?_ ?_
  rotate_left
  · go_simp; try with_reducible rfl
  try simp only [Act.put, List.setIfInBounds_toArray, List.set_cons_zero, List.set_cons_succ]
  refine ly M13 (some 64) rfl (yi_row 3 26 (.tmp 13) rfl (by kernel_rfl) rfl rfl Try.underlying26 rfl (by kernel_rfl)) ?_
  try simp only [Act.put, List.setIfInBounds_toArray, List.set_cons_zero, List.set_cons_succ]
  refine ly M13 (some 65) rfl (yi_row 4 26 (.tmp 15) rfl (by kernel_rfl) rfl rfl Try.underlying26 rfl (by kernel_rfl)) ?_
  try simp only [Act.put, List.setIfInBounds_toArray, List.set_cons_zero, List.set_cons_succ]
  refine lv (by kernel_rfl) (some 66) rfl (v := ?_) ?_ ?_
  rotate_left
  · go_simp; try with_reducible rfl
  try simp only [Act.put, List.setIfInBounds_toArray, List.set_cons_zero, List.set_cons_succ]
  refine lv (by kernel_rfl) (some 67) rfl (v := ?_) ?_ ?_
  rotate_left
  · go_simp; try with_reducible rfl
  try simp only [Act.put, List.setIfInBounds_toArray, List.set_cons_zero, List.set_cons_succ]
  refine lv (by kernel_rfl) (some 68) rfl (v := ?_) ?_ ?_
  rotate_left
  · go_simp; try with_reducible rfl
  try simp only [Act.put, List.setIfInBounds_toArray, List.set_cons_zero, List.set_cons_succ]
  refine lv (by kernel_rfl) (some 69) rfl (v := ?_) ?_ ?_
  rotate_left
  · go_simp; try with_reducible rfl
  try simp only [Act.put, List.setIfInBounds_toArray, List.set_cons_zero, List.set_cons_succ]
  refine lv (by kernel_rfl) (some 70) rfl (v := ?_) ?_ ?_
  rotate_left
  · go_simp; try with_reducible rfl
  try simp only [Act.put, List.setIfInBounds_toArray, List.set_cons_zero, List.set_cons_succ]
  refine lv (by kernel_rfl) (some 71) rfl (v := ?_) ?_ ?_
  rotate_left
  · go_simp; try with_reducible rfl
  try simp only [Act.put, List.setIfInBounds_toArray, List.set_cons_zero, List.set_cons_succ]
  refine lv (by kernel_rfl) (some 72) rfl (v := ?_) ?_ ?_
  rotate_left
  · go_simp; try with_reducible rfl
  try simp only [Act.put, List.setIfInBounds_toArray, List.set_cons_zero, List.set_cons_succ]
  refine lv (by kernel_rfl) (some 8) rfl (v := ?_) ?_ ?_
  rotate_left
  · go_simp; try with_reducible rfl
  try simp only [Act.put, List.setIfInBounds_toArray, List.set_cons_zero, List.set_cons_succ]
  refine wpList_nil ?_
  go_wp2_with fail
  go_ret
  exact ⟨rfl, M13.below⟩
theorem u32_of {r : Int} (h : (Lit.int .u32 r).wf = true) : 0 ≤ r ∧ r < 4294967296 := by
  simp [Lit.wf, IntKind.min, IntKind.max, IntKind.signed, IntKind.bits] at h
  omega
theorem says_walk (k c r : Int) (d : ByteArray) (a b n : Int) (w : World) (wr : (Lit.int .u32 r).wf = true) :
    Calls Try.prog 6 #[msgV k c r d, .int .i64 a, .int .i64 b, .int .i64 n] w fun e w' => e = .returned (.bool true) ∧ Below w.heap.size w w' := by
  obtain ⟨h0, h1⟩ := u32_of wr
  by_cases hl : (70000 : Int) < (d.size : Int)
  · exact says_long k c r d a b n w h0 h1 hl
  · exact says_short k c r d a b n w h0 h1 hl
theorem one_any (k c r : Int) (d : ByteArray) (a b n : Int) (w : World) (h0 : 0 ≤ r) (h1 : r < 4294967296) :
    Calls Try.prog 8 #[msgV k c r d, .int .i64 a, .int .i64 b, .int .i64 n] w fun e w' => e = .returned (.bool true) ∧ Below w.heap.size w w' := by
  by_cases hl : (100 : Int) < (d.size : Int)
  · exact one_long k c r d a b n w h0 h1 hl
  · exact one_short k c r d a b n w h0 h1 hl
theorem one_walk (k c r : Int) (d : ByteArray) (a b n : Int) (w : World) (wr : (Lit.int .u32 r).wf = true) :
    Calls Try.prog 8 #[msgV k c r d, .int .i64 a, .int .i64 b, .int .i64 n] w fun e w' => e = .returned (.bool true) ∧ Below w.heap.size w w' :=
  one_any k c r d a b n w (u32_of wr).1 (u32_of wr).2
end Go.Proofs.Ytcppckpkiloilaa
