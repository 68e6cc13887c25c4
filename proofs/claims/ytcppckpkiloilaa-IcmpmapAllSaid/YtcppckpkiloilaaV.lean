/-
  Contract of the reference's To4 (lines). Conditions stand in each statement.
-/
import Derived.Test.YtcppckpkiloilaaR
namespace Go.Proofs.Ytcppckpkiloilaa
open Go.RowKit
set_option linter.unusedVariables false
set_option linter.unusedSimpArgs false


/-- The lines of To4. -/
def K4 (r : Int) : List Line := [⟨128, 0, 8, 0, r⟩, ⟨129, 0, 0, 0, r⟩, ⟨1, 0, 3, 1, 0⟩, ⟨1, 2, 3, 1, 0⟩, ⟨1, 3, 3, 1, 0⟩, ⟨1, 1, 3, 10, 0⟩, ⟨1, 4, 3, 3, 0⟩, ⟨3, 0, 11, 0, 0⟩, ⟨3, 1, 11, 1, 0⟩, ⟨4, 1, 3, 2, 0⟩]
theorem tab_new {w : World} {g : Nat} {ls : List Line} (h : Bk w g 43 (rows ls).toArray) : Tab g ls w := ⟨h.lt, fun i v hv => h.cell (by simpa using hv)⟩
theorem l_slice {ops : Array Oper} {Q : Exit → Act → World → Prop} {o : Oper} {rest : List Oper} {a : Act} {w : World} (hw : Region.wanted o (yielded ops a.tmps) = true) (dst : Option Tmp) (hd : o.dst = dst) (cs : Array Value) (t : TypeId) (n m : Nat)
    (hrun : (execOp a.eval o).run Try.prog w = .ok (.value (.slice (some ⟨w.heap.size, 0, none⟩) n m)) (w.alloc (.cells cs t)))
    (h : wpList Try.prog ops Q rest (a.put dst (.slice (some ⟨w.heap.size, 0, none⟩) n m)) (w.alloc (.cells cs t))) : wpList Try.prog ops Q (o :: rest) a w := by
  refine wpList_want hw fun K hK => ?_
  unfold Oper.wp; rw [hrun]
  subst hd
  exact hK _ _ h

set_option maxRecDepth 100000 in
set_option maxHeartbeats 4000000 in
theorem rto4_lo0 (k c r : Int) (d : ByteArray) (a b : Int) (w : World) (hs : Sides a b) (hwr : IntKind.i64.wrap r = r) (h2 : (k == 2) = false) (h4 : (k == 4) = false) (hf : fnd k c (K4 r) = none) :
    Calls Try.prog 16 #[msgV k c r d, .int .i64 a, .int .i64 b] w fun e w' => e = .returned (retM (none) d) ∧ Below w.heap.size w w' := by
  have c24 := fun w => rbounds_t a b w hs
  clear hs
  have c25 : ∀ {g cap : Nat} {w : World}, Tab g (K4 r) w → Calls Try.prog 25 #[.slice (some ⟨g, 0, none⟩) 10 cap, msgV k c r d] w fun e w' => e = .returned (.tuple #[.agg #[.int .i64 0, .int .i64 0, .int .i64 0, .int .i64 0, .int .i64 0], .bool false]) ∧ Below w.heap.size w w' := fun {g cap} {w} t => find_tab (cap := cap) (n := 10) (r := r) (d := d) hf rfl (by omega) t
  clear hf
  go_enter Try.func16, Try.ntmps16
  go_upto_region 1 with fail
  have M0 := Mem.two w 26 26 #[.int .i64 k, .int .i64 c, .int .u32 r, .string d] #[.int .i64 0, .int .i64 0, .int .u32 0, .string ⟨#[]⟩]
  refine wp_region_lit ?_
  refine lv (by kernel_rfl) (some 13) rfl (v := ?_) ?_ ?_
  rotate_left
  · go_simp; try with_reducible rfl
  try simp only [Act.put, List.setIfInBounds_toArray, List.set_cons_zero, List.set_cons_succ]
  refine lv (by kernel_rfl) (some 14) rfl (v := ?_) ?_ ?_
  rotate_left
  · go_simp; try with_reducible rfl
  try simp only [Act.put, List.setIfInBounds_toArray, List.set_cons_zero, List.set_cons_succ]
  refine l_same (by kernel_rfl) (some 15) rfl (c24 _) (by kernel_rfl) ?_
  try simp only [Act.put, List.setIfInBounds_toArray, List.set_cons_zero, List.set_cons_succ]
  refine lv (by kernel_rfl) (some 16) rfl (v := ?_) ?_ ?_
  rotate_left
  · go_simp; try with_reducible rfl
  try simp only [Act.put, List.setIfInBounds_toArray, List.set_cons_zero, List.set_cons_succ]
  refine wpList_nil ?_
  go_upto_region 3 with fail
  refine wp_region_lit ?_
  refine lv (by kernel_rfl) (some 18) rfl (v := ?_) ?_ ?_
  rotate_left
  · go_simp; try with_reducible rfl
  try simp only [Act.put, List.setIfInBounds_toArray, List.set_cons_zero, List.set_cons_succ]
  refine ly M0 (some 19) rfl (yi_cell 0 3 (.tmp 18) rfl (by kernel_rfl) rfl _ rfl (.int .i64 k) Try.underlying3 rfl rfl) ?_
  try simp only [Act.put, List.setIfInBounds_toArray, List.set_cons_zero, List.set_cons_succ]
  refine lv (by kernel_rfl) (some 20) rfl (v := ?_) ?_ ?_
  rotate_left
  · go_simp; try with_reducible rfl
  try simp only [Act.put, List.setIfInBounds_toArray, List.set_cons_zero, List.set_cons_succ]
  refine lv (by kernel_rfl) (some 21) rfl (v := ?_) ?_ ?_
  rotate_left
  · go_simp; try with_reducible rfl
  try simp only [Act.put, List.setIfInBounds_toArray, List.set_cons_zero, List.set_cons_succ]
  with_reducible refine lu (by kernel_rfl) (some 22) rfl ?_
  try simp only [Act.put, List.setIfInBounds_toArray, List.set_cons_zero, List.set_cons_succ]
  with_reducible refine lu (by kernel_rfl) (some 23) rfl ?_
  try simp only [Act.put, List.setIfInBounds_toArray, List.set_cons_zero, List.set_cons_succ]
  with_reducible refine lu (by kernel_rfl) (some 24) rfl ?_
  try simp only [Act.put, List.setIfInBounds_toArray, List.set_cons_zero, List.set_cons_succ]
  refine lv (by kernel_rfl) (some 25) rfl (v := ?_) ?_ ?_
  rotate_left
  · go_simp; try with_reducible rfl
  try simp only [Act.put, List.setIfInBounds_toArray, List.set_cons_zero, List.set_cons_succ]
  refine wpList_nil ?_
  go_upto_region 14 with fail
  refine wp_region_lit ?_
  refine lv (by kernel_rfl) (some 49) rfl (v := ?_) ?_ ?_
  rotate_left
  · go_simp; try with_reducible rfl
  try simp only [Act.put, List.setIfInBounds_toArray, List.set_cons_zero, List.set_cons_succ]
  refine ly M0 (some 50) rfl (yi_cell 0 3 (.tmp 49) rfl (by kernel_rfl) rfl _ rfl (.int .i64 k) Try.underlying3 rfl rfl) ?_
  try simp only [Act.put, List.setIfInBounds_toArray, List.set_cons_zero, List.set_cons_succ]
  refine lv (by kernel_rfl) (some 51) rfl (v := ?_) ?_ ?_
  rotate_left
  · go_simp; try with_reducible rfl
  try simp only [Act.put, List.setIfInBounds_toArray, List.set_cons_zero, List.set_cons_succ]
  refine lv (by kernel_rfl) (some 52) rfl (v := ?_) ?_ ?_
  rotate_left
  · go_simp; try with_reducible rfl
  try simp only [Act.put, List.setIfInBounds_toArray, List.set_cons_zero, List.set_cons_succ]
  with_reducible refine lu (by kernel_rfl) (some 53) rfl ?_
  try simp only [Act.put, List.setIfInBounds_toArray, List.set_cons_zero, List.set_cons_succ]
  with_reducible refine lu (by kernel_rfl) (some 54) rfl ?_
  try simp only [Act.put, List.setIfInBounds_toArray, List.set_cons_zero, List.set_cons_succ]
  with_reducible refine lu (by kernel_rfl) (some 55) rfl ?_
  try simp only [Act.put, List.setIfInBounds_toArray, List.set_cons_zero, List.set_cons_succ]
  refine lv (by kernel_rfl) (some 56) rfl (v := ?_) ?_ ?_
  rotate_left
  · go_simp; try with_reducible rfl
  try simp only [Act.put, List.setIfInBounds_toArray, List.set_cons_zero, List.set_cons_succ]
  refine wpList_nil ?_
  go_upto_region 31 with fail
  refine wp_region_lit ?_
  refine lv (by kernel_rfl) (some 102) rfl (v := ?_) ?_ ?_
  rotate_left
  · go_simp; try with_reducible rfl
  try simp only [Act.put, List.setIfInBounds_toArray, List.set_cons_zero, List.set_cons_succ]
  refine ly M0 (some 103) rfl (yi_cell 0 24 (.tmp 102) rfl (by kernel_rfl) rfl _ rfl (.int .u32 r) Try.underlying24 rfl rfl) ?_
  try simp only [Act.put, List.setIfInBounds_toArray, List.set_cons_zero, List.set_cons_succ]
  refine lv (by kernel_rfl) (some 104) rfl (v := ?_) ?_ ?_
  rotate_left
  · go_simp; try with_reducible rfl
  try simp only [Act.put, List.setIfInBounds_toArray, List.set_cons_zero, List.set_cons_succ]
  refine lv (by kernel_rfl) (some 10) rfl (v := ?_) ?_ ?_
  rotate_left
  · go_simp; try with_reducible rfl
  try simp only [Act.put, List.setIfInBounds_toArray, List.set_cons_zero, List.set_cons_succ]
  refine wpList_nil ?_
  go_upto_region 32 with fail
  refine wp_region_lit ?_
  refine lv (by kernel_rfl) (some 106) rfl (v := ?_) ?_ ?_
  rotate_left
  · go_simp; try with_reducible rfl
  try simp only [Act.put, List.setIfInBounds_toArray, List.set_cons_zero, List.set_cons_succ]
  refine lv (by kernel_rfl) (some 107) rfl (v := ?_) ?_ ?_
  rotate_left
  · go_simp; try with_reducible rfl
  try simp only [Act.put, List.setIfInBounds_toArray, List.set_cons_zero, List.set_cons_succ]
  refine lv (by kernel_rfl) (some 108) rfl (v := ?_) ?_ ?_
  rotate_left
  · go_simp; try with_reducible rfl
  try simp only [Act.put, List.setIfInBounds_toArray, List.set_cons_zero, List.set_cons_succ]
  refine lv (by kernel_rfl) (some 109) rfl (v := ?_) ?_ ?_
  rotate_left
  · go_simp; try with_reducible rfl
  try simp only [Act.put, List.setIfInBounds_toArray, List.set_cons_zero, List.set_cons_succ]
  refine lv (by kernel_rfl) (some 110) rfl (v := ?_) ?_ ?_
  rotate_left
  · go_simp; try with_reducible rfl
  try simp only [Act.put, List.setIfInBounds_toArray, List.set_cons_zero, List.set_cons_succ]
  refine lv (by kernel_rfl) (some 111) rfl (v := ?_) ?_ ?_
  rotate_left
  · go_simp; try with_reducible rfl
  try simp only [Act.put, List.setIfInBounds_toArray, List.set_cons_zero, List.set_cons_succ]
  refine lv (by kernel_rfl) (some 112) rfl (v := ?_) ?_ ?_
  rotate_left
  · go_simp; try with_reducible rfl
  try simp only [Act.put, List.setIfInBounds_toArray, List.set_cons_zero, List.set_cons_succ]
  refine lv (by kernel_rfl) (some 113) rfl (v := ?_) ?_ ?_
  rotate_left
  · go_simp; try with_reducible rfl
  try simp only [Act.put, List.setIfInBounds_toArray, List.set_cons_zero, List.set_cons_succ]
  refine lv (by kernel_rfl) (some 114) rfl (v := ?_) ?_ ?_
  rotate_left
  · go_simp; try with_reducible rfl
  try simp only [Act.put, List.setIfInBounds_toArray, List.set_cons_zero, List.set_cons_succ]
  refine lv (by kernel_rfl) (some 115) rfl (v := ?_) ?_ ?_
  rotate_left
  · go_simp; try with_reducible rfl
  try simp only [Act.put, List.setIfInBounds_toArray, List.set_cons_zero, List.set_cons_succ]
  refine lv (by kernel_rfl) (some 116) rfl (v := ?_) ?_ ?_
  rotate_left
  · go_simp; try with_reducible rfl
  try simp only [Act.put, List.setIfInBounds_toArray, List.set_cons_zero, List.set_cons_succ]
  refine lv (by kernel_rfl) (some 117) rfl (v := ?_) ?_ ?_
  rotate_left
  · go_simp; try with_reducible rfl
  try simp only [Act.put, List.setIfInBounds_toArray, List.set_cons_zero, List.set_cons_succ]
  refine l_slice (by kernel_rfl) (some 118) rfl (rows (K4 r)).toArray 43 10 10 (by kernel_rfl) ?_
  have MB := M0.new rfl 43 (rows (K4 r)).toArray
  clear M0
  try simp only [List.cons_append, List.nil_append, List.set_cons_zero, List.set_cons_succ] at MB
  have TB := tab_new (MB.row (i := 2) rfl)
  try simp only [Act.put, List.setIfInBounds_toArray, List.set_cons_zero, List.set_cons_succ]
  refine ly MB (some 119) rfl (yi_row 0 26 (.tmp 3) rfl (by kernel_rfl) rfl rfl Try.underlying26 rfl (by kernel_rfl)) ?_
  try simp only [Act.put, List.setIfInBounds_toArray, List.set_cons_zero, List.set_cons_succ]
  refine l_call (by kernel_rfl) (some 120) rfl (c25 (cap := 10) TB) (by kernel_rfl) (fun s2 hb2 => ?_)
  have M2 := MB.call hb2
  clear hb2 MB TB
  try simp only [Act.put, List.setIfInBounds_toArray, List.set_cons_zero, List.set_cons_succ]
  refine lv (by kernel_rfl) (some 105) rfl (v := ?_) ?_ ?_
  rotate_left
  · go_simp; try with_reducible rfl
  try simp only [Act.put, List.setIfInBounds_toArray, List.set_cons_zero, List.set_cons_succ]
  refine lv (by kernel_rfl) (some 121) rfl (v := ?_) ?_ ?_
  rotate_left
  · go_simp; try with_reducible rfl
  try simp only [Act.put, List.setIfInBounds_toArray, List.set_cons_zero, List.set_cons_succ]
  refine lv (by kernel_rfl) (some 122) rfl (v := ?_) ?_ ?_
  rotate_left
  · go_simp; try with_reducible rfl
  try simp only [Act.put, List.setIfInBounds_toArray, List.set_cons_zero, List.set_cons_succ]
  refine l_alloc (by kernel_rfl) (some 11) rfl #[.int .i64 0, .int .i64 0, .int .i64 0, .int .i64 0, .int .i64 0] 43 (by kernel_rfl) ?_
  have M3 := M2.new rfl 43 #[.int .i64 0, .int .i64 0, .int .i64 0, .int .i64 0, .int .i64 0]
  clear M2
  try simp only [List.cons_append, List.nil_append, List.set_cons_zero, List.set_cons_succ] at M3
  try simp only [Act.put, List.setIfInBounds_toArray, List.set_cons_zero, List.set_cons_succ]
  refine l_store M3 3 (by kernel_rfl) 43 (.tmp 11) _ rfl rfl rfl rfl _ rfl (by kernel_rfl) (by rfl) (by kernel_rfl) _ rfl (fun s4 M4 => ?_)
  clear M3
  try simp only [List.cons_append, List.nil_append, List.set_cons_zero, List.set_cons_succ] at M4
  try simp only [Act.put, List.setIfInBounds_toArray, List.set_cons_zero, List.set_cons_succ]
  refine lv (by kernel_rfl) (some 12) rfl (v := ?_) ?_ ?_
  rotate_left
  · go_simp; try with_reducible rfl
  try simp only [Act.put, List.setIfInBounds_toArray, List.set_cons_zero, List.set_cons_succ]
  refine wpList_nil ?_
  go_upto_region 33 with fail
  refine wp_region_lit ?_
  refine lv (by kernel_rfl) (some 123) rfl (v := ?_) ?_ ?_
  rotate_left
  · go_simp; try with_reducible rfl
  try simp only [Act.put, List.setIfInBounds_toArray, List.set_cons_zero, List.set_cons_succ]
  refine lv (by kernel_rfl) (some 124) rfl (v := ?_) ?_ ?_
  rotate_left
  · go_simp; try with_reducible rfl
  try simp only [Act.put, List.setIfInBounds_toArray, List.set_cons_zero, List.set_cons_succ]
  refine wpList_nil ?_
  go_upto_region 34 with fail
  refine wp_region_lit ?_
  refine lv (by kernel_rfl) (some 125) rfl (v := ?_) ?_ ?_
  rotate_left
  · go_simp; try with_reducible rfl
  try simp only [Act.put, List.setIfInBounds_toArray, List.set_cons_zero, List.set_cons_succ]
  refine l_store M4 1 (by kernel_rfl) 26 (.tmp 6) _ rfl rfl rfl rfl _ rfl (by kernel_rfl) (by rfl) (by kernel_rfl) _ rfl (fun s5 M5 => ?_)
  clear M4
  try simp only [List.cons_append, List.nil_append, List.set_cons_zero, List.set_cons_succ] at M5
  try simp only [Act.put, List.setIfInBounds_toArray, List.set_cons_zero, List.set_cons_succ]
  refine lv (by kernel_rfl) (some 7) rfl (v := ?_) ?_ ?_
  rotate_left
  · go_simp; try with_reducible rfl
  try simp only [Act.put, List.setIfInBounds_toArray, List.set_cons_zero, List.set_cons_succ]
  refine wpList_nil ?_
  go_wp2_with fail
  exact bodyPost_ret (v := retM (none) d) (results_cell_tmp rfl (M5.row (i := 1) rfl) _ rfl _ rfl Try.underlying26 rfl (by kernel_rfl)) rfl ⟨rfl, M5.below⟩
set_option maxRecDepth 100000 in
set_option maxHeartbeats 4000000 in
theorem rto4_lo1 (k c r x y z : Int) (d : ByteArray) (a b : Int) (w : World) (hs : Sides a b) (hwr : IntKind.i64.wrap r = r) (h2 : (k == 2) = false) (h4 : (k == 4) = false) (hf : fnd k c (K4 r) = some (x, y, z)) (hz : IntKind.u32.wrap z = z) :
    Calls Try.prog 16 #[msgV k c r d, .int .i64 a, .int .i64 b] w fun e w' => e = .returned (retM (some (x, y, z)) d) ∧ Below w.heap.size w w' := by
  have c24 := fun w => rbounds_t a b w hs
  clear hs
  have c25 : ∀ {g cap : Nat} {w : World}, Tab g (K4 r) w → Calls Try.prog 25 #[.slice (some ⟨g, 0, none⟩) 10 cap, msgV k c r d] w fun e w' => e = .returned (.tuple #[.agg #[.int .i64 k, .int .i64 c, .int .i64 x, .int .i64 y, .int .i64 z], .bool true]) ∧ Below w.heap.size w w' := fun {g cap} {w} t => find_tab (cap := cap) (n := 10) (r := r) (d := d) hf rfl (by omega) t
  clear hf
  go_enter Try.func16, Try.ntmps16
  go_upto_region 1 with fail
  have M0 := Mem.two w 26 26 #[.int .i64 k, .int .i64 c, .int .u32 r, .string d] #[.int .i64 0, .int .i64 0, .int .u32 0, .string ⟨#[]⟩]
  refine wp_region_lit ?_
  refine lv (by kernel_rfl) (some 13) rfl (v := ?_) ?_ ?_
  rotate_left
  · go_simp; try with_reducible rfl
  try simp only [Act.put, List.setIfInBounds_toArray, List.set_cons_zero, List.set_cons_succ]
  refine lv (by kernel_rfl) (some 14) rfl (v := ?_) ?_ ?_
  rotate_left
  · go_simp; try with_reducible rfl
  try simp only [Act.put, List.setIfInBounds_toArray, List.set_cons_zero, List.set_cons_succ]
  refine l_same (by kernel_rfl) (some 15) rfl (c24 _) (by kernel_rfl) ?_
  try simp only [Act.put, List.setIfInBounds_toArray, List.set_cons_zero, List.set_cons_succ]
  refine lv (by kernel_rfl) (some 16) rfl (v := ?_) ?_ ?_
  rotate_left
  · go_simp; try with_reducible rfl
  try simp only [Act.put, List.setIfInBounds_toArray, List.set_cons_zero, List.set_cons_succ]
  refine wpList_nil ?_
  go_upto_region 3 with fail
  refine wp_region_lit ?_
  refine lv (by kernel_rfl) (some 18) rfl (v := ?_) ?_ ?_
  rotate_left
  · go_simp; try with_reducible rfl
  try simp only [Act.put, List.setIfInBounds_toArray, List.set_cons_zero, List.set_cons_succ]
  refine ly M0 (some 19) rfl (yi_cell 0 3 (.tmp 18) rfl (by kernel_rfl) rfl _ rfl (.int .i64 k) Try.underlying3 rfl rfl) ?_
  try simp only [Act.put, List.setIfInBounds_toArray, List.set_cons_zero, List.set_cons_succ]
  refine lv (by kernel_rfl) (some 20) rfl (v := ?_) ?_ ?_
  rotate_left
  · go_simp; try with_reducible rfl
  try simp only [Act.put, List.setIfInBounds_toArray, List.set_cons_zero, List.set_cons_succ]
  refine lv (by kernel_rfl) (some 21) rfl (v := ?_) ?_ ?_
  rotate_left
  · go_simp; try with_reducible rfl
  try simp only [Act.put, List.setIfInBounds_toArray, List.set_cons_zero, List.set_cons_succ]
  with_reducible refine lu (by kernel_rfl) (some 22) rfl ?_
  try simp only [Act.put, List.setIfInBounds_toArray, List.set_cons_zero, List.set_cons_succ]
  with_reducible refine lu (by kernel_rfl) (some 23) rfl ?_
  try simp only [Act.put, List.setIfInBounds_toArray, List.set_cons_zero, List.set_cons_succ]
  with_reducible refine lu (by kernel_rfl) (some 24) rfl ?_
  try simp only [Act.put, List.setIfInBounds_toArray, List.set_cons_zero, List.set_cons_succ]
  refine lv (by kernel_rfl) (some 25) rfl (v := ?_) ?_ ?_
  rotate_left
  · go_simp; try with_reducible rfl
  try simp only [Act.put, List.setIfInBounds_toArray, List.set_cons_zero, List.set_cons_succ]
  refine wpList_nil ?_
  go_upto_region 14 with fail
  refine wp_region_lit ?_
  refine lv (by kernel_rfl) (some 49) rfl (v := ?_) ?_ ?_
  rotate_left
  · go_simp; try with_reducible rfl
  try simp only [Act.put, List.setIfInBounds_toArray, List.set_cons_zero, List.set_cons_succ]
  refine ly M0 (some 50) rfl (yi_cell 0 3 (.tmp 49) rfl (by kernel_rfl) rfl _ rfl (.int .i64 k) Try.underlying3 rfl rfl) ?_
  try simp only [Act.put, List.setIfInBounds_toArray, List.set_cons_zero, List.set_cons_succ]
  refine lv (by kernel_rfl) (some 51) rfl (v := ?_) ?_ ?_
  rotate_left
  · go_simp; try with_reducible rfl
  try simp only [Act.put, List.setIfInBounds_toArray, List.set_cons_zero, List.set_cons_succ]
  refine lv (by kernel_rfl) (some 52) rfl (v := ?_) ?_ ?_
  rotate_left
  · go_simp; try with_reducible rfl
  try simp only [Act.put, List.setIfInBounds_toArray, List.set_cons_zero, List.set_cons_succ]
  with_reducible refine lu (by kernel_rfl) (some 53) rfl ?_
  try simp only [Act.put, List.setIfInBounds_toArray, List.set_cons_zero, List.set_cons_succ]
  with_reducible refine lu (by kernel_rfl) (some 54) rfl ?_
  try simp only [Act.put, List.setIfInBounds_toArray, List.set_cons_zero, List.set_cons_succ]
  with_reducible refine lu (by kernel_rfl) (some 55) rfl ?_
  try simp only [Act.put, List.setIfInBounds_toArray, List.set_cons_zero, List.set_cons_succ]
  refine lv (by kernel_rfl) (some 56) rfl (v := ?_) ?_ ?_
  rotate_left
  · go_simp; try with_reducible rfl
  try simp only [Act.put, List.setIfInBounds_toArray, List.set_cons_zero, List.set_cons_succ]
  refine wpList_nil ?_
  go_upto_region 31 with fail
  refine wp_region_lit ?_
  refine lv (by kernel_rfl) (some 102) rfl (v := ?_) ?_ ?_
  rotate_left
  · go_simp; try with_reducible rfl
  try simp only [Act.put, List.setIfInBounds_toArray, List.set_cons_zero, List.set_cons_succ]
  refine ly M0 (some 103) rfl (yi_cell 0 24 (.tmp 102) rfl (by kernel_rfl) rfl _ rfl (.int .u32 r) Try.underlying24 rfl rfl) ?_
  try simp only [Act.put, List.setIfInBounds_toArray, List.set_cons_zero, List.set_cons_succ]
  refine lv (by kernel_rfl) (some 104) rfl (v := ?_) ?_ ?_
  rotate_left
  · go_simp; try with_reducible rfl
  try simp only [Act.put, List.setIfInBounds_toArray, List.set_cons_zero, List.set_cons_succ]
  refine lv (by kernel_rfl) (some 10) rfl (v := ?_) ?_ ?_
  rotate_left
  · go_simp; try with_reducible rfl
  try simp only [Act.put, List.setIfInBounds_toArray, List.set_cons_zero, List.set_cons_succ]
  refine wpList_nil ?_
  go_upto_region 32 with fail
  refine wp_region_lit ?_
  refine lv (by kernel_rfl) (some 106) rfl (v := ?_) ?_ ?_
  rotate_left
  · go_simp; try with_reducible rfl
  try simp only [Act.put, List.setIfInBounds_toArray, List.set_cons_zero, List.set_cons_succ]
  refine lv (by kernel_rfl) (some 107) rfl (v := ?_) ?_ ?_
  rotate_left
  · go_simp; try with_reducible rfl
  try simp only [Act.put, List.setIfInBounds_toArray, List.set_cons_zero, List.set_cons_succ]
  refine lv (by kernel_rfl) (some 108) rfl (v := ?_) ?_ ?_
  rotate_left
  · go_simp; try with_reducible rfl
  try simp only [Act.put, List.setIfInBounds_toArray, List.set_cons_zero, List.set_cons_succ]
  refine lv (by kernel_rfl) (some 109) rfl (v := ?_) ?_ ?_
  rotate_left
  · go_simp; try with_reducible rfl
  try simp only [Act.put, List.setIfInBounds_toArray, List.set_cons_zero, List.set_cons_succ]
  refine lv (by kernel_rfl) (some 110) rfl (v := ?_) ?_ ?_
  rotate_left
  · go_simp; try with_reducible rfl
  try simp only [Act.put, List.setIfInBounds_toArray, List.set_cons_zero, List.set_cons_succ]
  refine lv (by kernel_rfl) (some 111) rfl (v := ?_) ?_ ?_
  rotate_left
  · go_simp; try with_reducible rfl
  try simp only [Act.put, List.setIfInBounds_toArray, List.set_cons_zero, List.set_cons_succ]
  refine lv (by kernel_rfl) (some 112) rfl (v := ?_) ?_ ?_
  rotate_left
  · go_simp; try with_reducible rfl
  try simp only [Act.put, List.setIfInBounds_toArray, List.set_cons_zero, List.set_cons_succ]
  refine lv (by kernel_rfl) (some 113) rfl (v := ?_) ?_ ?_
  rotate_left
  · go_simp; try with_reducible rfl
  try simp only [Act.put, List.setIfInBounds_toArray, List.set_cons_zero, List.set_cons_succ]
  refine lv (by kernel_rfl) (some 114) rfl (v := ?_) ?_ ?_
  rotate_left
  · go_simp; try with_reducible rfl
  try simp only [Act.put, List.setIfInBounds_toArray, List.set_cons_zero, List.set_cons_succ]
  refine lv (by kernel_rfl) (some 115) rfl (v := ?_) ?_ ?_
  rotate_left
  · go_simp; try with_reducible rfl
  try simp only [Act.put, List.setIfInBounds_toArray, List.set_cons_zero, List.set_cons_succ]
  refine lv (by kernel_rfl) (some 116) rfl (v := ?_) ?_ ?_
  rotate_left
  · go_simp; try with_reducible rfl
  try simp only [Act.put, List.setIfInBounds_toArray, List.set_cons_zero, List.set_cons_succ]
  refine lv (by kernel_rfl) (some 117) rfl (v := ?_) ?_ ?_
  rotate_left
  · go_simp; try with_reducible rfl
  try simp only [Act.put, List.setIfInBounds_toArray, List.set_cons_zero, List.set_cons_succ]
  refine l_slice (by kernel_rfl) (some 118) rfl (rows (K4 r)).toArray 43 10 10 (by kernel_rfl) ?_
  have MB := M0.new rfl 43 (rows (K4 r)).toArray
  clear M0
  try simp only [List.cons_append, List.nil_append, List.set_cons_zero, List.set_cons_succ] at MB
  have TB := tab_new (MB.row (i := 2) rfl)
  try simp only [Act.put, List.setIfInBounds_toArray, List.set_cons_zero, List.set_cons_succ]
  refine ly MB (some 119) rfl (yi_row 0 26 (.tmp 3) rfl (by kernel_rfl) rfl rfl Try.underlying26 rfl (by kernel_rfl)) ?_
  try simp only [Act.put, List.setIfInBounds_toArray, List.set_cons_zero, List.set_cons_succ]
  refine l_call (by kernel_rfl) (some 120) rfl (c25 (cap := 10) TB) (by kernel_rfl) (fun s2 hb2 => ?_)
  have M2 := MB.call hb2
  clear hb2 MB TB
  try simp only [Act.put, List.setIfInBounds_toArray, List.set_cons_zero, List.set_cons_succ]
  refine lv (by kernel_rfl) (some 105) rfl (v := ?_) ?_ ?_
  rotate_left
  · go_simp; try with_reducible rfl
  try simp only [Act.put, List.setIfInBounds_toArray, List.set_cons_zero, List.set_cons_succ]
  refine lv (by kernel_rfl) (some 121) rfl (v := ?_) ?_ ?_
  rotate_left
  · go_simp; try with_reducible rfl
  try simp only [Act.put, List.setIfInBounds_toArray, List.set_cons_zero, List.set_cons_succ]
  refine lv (by kernel_rfl) (some 122) rfl (v := ?_) ?_ ?_
  rotate_left
  · go_simp; try with_reducible rfl
  try simp only [Act.put, List.setIfInBounds_toArray, List.set_cons_zero, List.set_cons_succ]
  refine l_alloc (by kernel_rfl) (some 11) rfl #[.int .i64 0, .int .i64 0, .int .i64 0, .int .i64 0, .int .i64 0] 43 (by kernel_rfl) ?_
  have M3 := M2.new rfl 43 #[.int .i64 0, .int .i64 0, .int .i64 0, .int .i64 0, .int .i64 0]
  clear M2
  try simp only [List.cons_append, List.nil_append, List.set_cons_zero, List.set_cons_succ] at M3
  try simp only [Act.put, List.setIfInBounds_toArray, List.set_cons_zero, List.set_cons_succ]
  refine l_store M3 3 (by kernel_rfl) 43 (.tmp 11) _ rfl rfl rfl rfl _ rfl (by kernel_rfl) (by rfl) (by kernel_rfl) _ rfl (fun s4 M4 => ?_)
  clear M3
  try simp only [List.cons_append, List.nil_append, List.set_cons_zero, List.set_cons_succ] at M4
  try simp only [Act.put, List.setIfInBounds_toArray, List.set_cons_zero, List.set_cons_succ]
  refine lv (by kernel_rfl) (some 12) rfl (v := ?_) ?_ ?_
  rotate_left
  · go_simp; try with_reducible rfl
  try simp only [Act.put, List.setIfInBounds_toArray, List.set_cons_zero, List.set_cons_succ]
  refine wpList_nil ?_
  go_upto_region 33 with fail
  refine wp_region_lit ?_
  refine lv (by kernel_rfl) (some 123) rfl (v := ?_) ?_ ?_
  rotate_left
  · go_simp; try with_reducible rfl
  try simp only [Act.put, List.setIfInBounds_toArray, List.set_cons_zero, List.set_cons_succ]
  refine lv (by kernel_rfl) (some 124) rfl (v := ?_) ?_ ?_
  rotate_left
  · go_simp; try with_reducible rfl
  try simp only [Act.put, List.setIfInBounds_toArray, List.set_cons_zero, List.set_cons_succ]
  refine wpList_nil ?_
  go_upto_region 35 with fail
  refine wp_region_lit ?_
  refine lv (by kernel_rfl) (some 126) rfl (v := ?_) ?_ ?_
  rotate_left
  · go_simp; try with_reducible rfl
  try simp only [Act.put, List.setIfInBounds_toArray, List.set_cons_zero, List.set_cons_succ]
  refine ly M4 (some 127) rfl (yi_cell 3 3 (.tmp 126) rfl (by kernel_rfl) rfl _ rfl (.int .i64 x) Try.underlying3 rfl rfl) ?_
  try simp only [Act.put, List.setIfInBounds_toArray, List.set_cons_zero, List.set_cons_succ]
  refine lv (by kernel_rfl) (some 128) rfl (v := ?_) ?_ ?_
  rotate_left
  · go_simp; try with_reducible rfl
  try simp only [Act.put, List.setIfInBounds_toArray, List.set_cons_zero, List.set_cons_succ]
  refine ly M4 (some 129) rfl (yi_cell 3 3 (.tmp 128) rfl (by kernel_rfl) rfl _ rfl (.int .i64 y) Try.underlying3 rfl rfl) ?_
  try simp only [Act.put, List.setIfInBounds_toArray, List.set_cons_zero, List.set_cons_succ]
  refine lv (by kernel_rfl) (some 130) rfl (v := ?_) ?_ ?_
  rotate_left
  · go_simp; try with_reducible rfl
  try simp only [Act.put, List.setIfInBounds_toArray, List.set_cons_zero, List.set_cons_succ]
  refine ly M4 (some 131) rfl (yi_cell 3 3 (.tmp 130) rfl (by kernel_rfl) rfl _ rfl (.int .i64 z) Try.underlying3 rfl rfl) ?_
  try simp only [Act.put, List.setIfInBounds_toArray, List.set_cons_zero, List.set_cons_succ]
  refine lv (by kernel_rfl) (some 132) rfl (v := ?_) ?_ ?_
  rotate_left
  · go_simp; try with_reducible rfl
  try simp only [Act.put, List.setIfInBounds_toArray, List.set_cons_zero, List.set_cons_succ]
  refine lv (by kernel_rfl) (some 133) rfl (v := ?_) ?_ ?_
  rotate_left
  · go_simp; try with_reducible rfl
  try simp only [Act.put, List.setIfInBounds_toArray, List.set_cons_zero, List.set_cons_succ]
  refine ly M4 (some 134) rfl (yi_cell 0 9 (.tmp 133) rfl (by kernel_rfl) rfl _ rfl (.string d) Try.underlying9 rfl rfl) ?_
  try simp only [Act.put, List.setIfInBounds_toArray, List.set_cons_zero, List.set_cons_succ]
  refine lv (by kernel_rfl) (some 135) rfl (v := ?_) ?_ ?_
  rotate_left
  · go_simp; try with_reducible rfl
  try simp only [Act.put, List.setIfInBounds_toArray, List.set_cons_zero, List.set_cons_succ]
  refine l_store M4 1 (by kernel_rfl) 26 (.tmp 6) _ rfl rfl rfl rfl _ rfl (by kernel_rfl) (by rfl) (by kernel_rfl) _ rfl (fun s5 M5 => ?_)
  clear M4
  try simp only [List.cons_append, List.nil_append, List.set_cons_zero, List.set_cons_succ] at M5
  try simp only [Act.put, List.setIfInBounds_toArray, List.set_cons_zero, List.set_cons_succ]
  refine lv (by kernel_rfl) (some 7) rfl (v := ?_) ?_ ?_
  rotate_left
  · go_simp; try with_reducible rfl
  try simp only [Act.put, List.setIfInBounds_toArray, List.set_cons_zero, List.set_cons_succ]
  refine wpList_nil ?_
  go_wp2_with fail
  exact bodyPost_ret (v := retM (some (x, y, z)) d) (results_cell_tmp rfl (M5.row (i := 1) rfl) _ rfl _ rfl Try.underlying26 rfl (by kernel_rfl)) rfl ⟨rfl, M5.below⟩
set_option maxRecDepth 100000 in
set_option maxHeartbeats 4000000 in
theorem rto4_lm0 (k c r : Int) (d : ByteArray) (a b : Int) (w : World) (hs : Sides a b) (hwr : IntKind.i64.wrap r = r) (h2 : (k == 2) = true) (h0 : (c == 0) = false) (h4 : (k == 4) = false) (hf : fnd k c (K4 r) = none) :
    Calls Try.prog 16 #[msgV k c r d, .int .i64 a, .int .i64 b] w fun e w' => e = .returned (retM (none) d) ∧ Below w.heap.size w w' := by
  have c24 := fun w => rbounds_t a b w hs
  clear hs
  have c25 : ∀ {g cap : Nat} {w : World}, Tab g (K4 r) w → Calls Try.prog 25 #[.slice (some ⟨g, 0, none⟩) 10 cap, msgV k c r d] w fun e w' => e = .returned (.tuple #[.agg #[.int .i64 0, .int .i64 0, .int .i64 0, .int .i64 0, .int .i64 0], .bool false]) ∧ Below w.heap.size w w' := fun {g cap} {w} t => find_tab (cap := cap) (n := 10) (r := r) (d := d) hf rfl (by omega) t
  clear hf
  go_enter Try.func16, Try.ntmps16
  go_upto_region 1 with fail
  have M0 := Mem.two w 26 26 #[.int .i64 k, .int .i64 c, .int .u32 r, .string d] #[.int .i64 0, .int .i64 0, .int .u32 0, .string ⟨#[]⟩]
  refine wp_region_lit ?_
  refine lv (by kernel_rfl) (some 13) rfl (v := ?_) ?_ ?_
  rotate_left
  · go_simp; try with_reducible rfl
  try simp only [Act.put, List.setIfInBounds_toArray, List.set_cons_zero, List.set_cons_succ]
  refine lv (by kernel_rfl) (some 14) rfl (v := ?_) ?_ ?_
  rotate_left
  · go_simp; try with_reducible rfl
  try simp only [Act.put, List.setIfInBounds_toArray, List.set_cons_zero, List.set_cons_succ]
  refine l_same (by kernel_rfl) (some 15) rfl (c24 _) (by kernel_rfl) ?_
  try simp only [Act.put, List.setIfInBounds_toArray, List.set_cons_zero, List.set_cons_succ]
  refine lv (by kernel_rfl) (some 16) rfl (v := ?_) ?_ ?_
  rotate_left
  · go_simp; try with_reducible rfl
  try simp only [Act.put, List.setIfInBounds_toArray, List.set_cons_zero, List.set_cons_succ]
  refine wpList_nil ?_
  go_upto_region 3 with fail
  refine wp_region_lit ?_
  refine lv (by kernel_rfl) (some 18) rfl (v := ?_) ?_ ?_
  rotate_left
  · go_simp; try with_reducible rfl
  try simp only [Act.put, List.setIfInBounds_toArray, List.set_cons_zero, List.set_cons_succ]
  refine ly M0 (some 19) rfl (yi_cell 0 3 (.tmp 18) rfl (by kernel_rfl) rfl _ rfl (.int .i64 k) Try.underlying3 rfl rfl) ?_
  try simp only [Act.put, List.setIfInBounds_toArray, List.set_cons_zero, List.set_cons_succ]
  refine lv (by kernel_rfl) (some 20) rfl (v := ?_) ?_ ?_
  rotate_left
  · go_simp; try with_reducible rfl
  try simp only [Act.put, List.setIfInBounds_toArray, List.set_cons_zero, List.set_cons_succ]
  refine lv (by kernel_rfl) (some 21) rfl (v := ?_) ?_ ?_
  rotate_left
  · go_simp; try with_reducible rfl
  try simp only [Act.put, List.setIfInBounds_toArray, List.set_cons_zero, List.set_cons_succ]
  refine lv (by kernel_rfl) (some 22) rfl (v := ?_) ?_ ?_
  rotate_left
  · go_simp; try with_reducible rfl
  try simp only [Act.put, List.setIfInBounds_toArray, List.set_cons_zero, List.set_cons_succ]
  refine ly M0 (some 23) rfl (yi_cell 0 3 (.tmp 22) rfl (by kernel_rfl) rfl _ rfl (.int .i64 c) Try.underlying3 rfl rfl) ?_
  try simp only [Act.put, List.setIfInBounds_toArray, List.set_cons_zero, List.set_cons_succ]
  refine lv (by kernel_rfl) (some 24) rfl (v := ?_) ?_ ?_
  rotate_left
  · go_simp; try with_reducible rfl
  try simp only [Act.put, List.setIfInBounds_toArray, List.set_cons_zero, List.set_cons_succ]
  refine lv (by kernel_rfl) (some 25) rfl (v := ?_) ?_ ?_
  rotate_left
  · go_simp; try with_reducible rfl
  try simp only [Act.put, List.setIfInBounds_toArray, List.set_cons_zero, List.set_cons_succ]
  refine wpList_nil ?_
  go_upto_region 14 with fail
  refine wp_region_lit ?_
  refine lv (by kernel_rfl) (some 49) rfl (v := ?_) ?_ ?_
  rotate_left
  · go_simp; try with_reducible rfl
  try simp only [Act.put, List.setIfInBounds_toArray, List.set_cons_zero, List.set_cons_succ]
  refine ly M0 (some 50) rfl (yi_cell 0 3 (.tmp 49) rfl (by kernel_rfl) rfl _ rfl (.int .i64 k) Try.underlying3 rfl rfl) ?_
  try simp only [Act.put, List.setIfInBounds_toArray, List.set_cons_zero, List.set_cons_succ]
  refine lv (by kernel_rfl) (some 51) rfl (v := ?_) ?_ ?_
  rotate_left
  · go_simp; try with_reducible rfl
  try simp only [Act.put, List.setIfInBounds_toArray, List.set_cons_zero, List.set_cons_succ]
  refine lv (by kernel_rfl) (some 52) rfl (v := ?_) ?_ ?_
  rotate_left
  · go_simp; try with_reducible rfl
  try simp only [Act.put, List.setIfInBounds_toArray, List.set_cons_zero, List.set_cons_succ]
  with_reducible refine lu (by kernel_rfl) (some 53) rfl ?_
  try simp only [Act.put, List.setIfInBounds_toArray, List.set_cons_zero, List.set_cons_succ]
  with_reducible refine lu (by kernel_rfl) (some 54) rfl ?_
  try simp only [Act.put, List.setIfInBounds_toArray, List.set_cons_zero, List.set_cons_succ]
  with_reducible refine lu (by kernel_rfl) (some 55) rfl ?_
  try simp only [Act.put, List.setIfInBounds_toArray, List.set_cons_zero, List.set_cons_succ]
  refine lv (by kernel_rfl) (some 56) rfl (v := ?_) ?_ ?_
  rotate_left
  · go_simp; try with_reducible rfl
  try simp only [Act.put, List.setIfInBounds_toArray, List.set_cons_zero, List.set_cons_succ]
  refine wpList_nil ?_
  go_upto_region 31 with fail
  refine wp_region_lit ?_
  refine lv (by kernel_rfl) (some 102) rfl (v := ?_) ?_ ?_
  rotate_left
  · go_simp; try with_reducible rfl
  try simp only [Act.put, List.setIfInBounds_toArray, List.set_cons_zero, List.set_cons_succ]
  refine ly M0 (some 103) rfl (yi_cell 0 24 (.tmp 102) rfl (by kernel_rfl) rfl _ rfl (.int .u32 r) Try.underlying24 rfl rfl) ?_
  try simp only [Act.put, List.setIfInBounds_toArray, List.set_cons_zero, List.set_cons_succ]
  refine lv (by kernel_rfl) (some 104) rfl (v := ?_) ?_ ?_
  rotate_left
  · go_simp; try with_reducible rfl
  try simp only [Act.put, List.setIfInBounds_toArray, List.set_cons_zero, List.set_cons_succ]
  refine lv (by kernel_rfl) (some 10) rfl (v := ?_) ?_ ?_
  rotate_left
  · go_simp; try with_reducible rfl
  try simp only [Act.put, List.setIfInBounds_toArray, List.set_cons_zero, List.set_cons_succ]
  refine wpList_nil ?_
  go_upto_region 32 with fail
  refine wp_region_lit ?_
  refine lv (by kernel_rfl) (some 106) rfl (v := ?_) ?_ ?_
  rotate_left
  · go_simp; try with_reducible rfl
  try simp only [Act.put, List.setIfInBounds_toArray, List.set_cons_zero, List.set_cons_succ]
  refine lv (by kernel_rfl) (some 107) rfl (v := ?_) ?_ ?_
  rotate_left
  · go_simp; try with_reducible rfl
  try simp only [Act.put, List.setIfInBounds_toArray, List.set_cons_zero, List.set_cons_succ]
  refine lv (by kernel_rfl) (some 108) rfl (v := ?_) ?_ ?_
  rotate_left
  · go_simp; try with_reducible rfl
  try simp only [Act.put, List.setIfInBounds_toArray, List.set_cons_zero, List.set_cons_succ]
  refine lv (by kernel_rfl) (some 109) rfl (v := ?_) ?_ ?_
  rotate_left
  · go_simp; try with_reducible rfl
  try simp only [Act.put, List.setIfInBounds_toArray, List.set_cons_zero, List.set_cons_succ]
  refine lv (by kernel_rfl) (some 110) rfl (v := ?_) ?_ ?_
  rotate_left
  · go_simp; try with_reducible rfl
  try simp only [Act.put, List.setIfInBounds_toArray, List.set_cons_zero, List.set_cons_succ]
  refine lv (by kernel_rfl) (some 111) rfl (v := ?_) ?_ ?_
  rotate_left
  · go_simp; try with_reducible rfl
  try simp only [Act.put, List.setIfInBounds_toArray, List.set_cons_zero, List.set_cons_succ]
  refine lv (by kernel_rfl) (some 112) rfl (v := ?_) ?_ ?_
  rotate_left
  · go_simp; try with_reducible rfl
  try simp only [Act.put, List.setIfInBounds_toArray, List.set_cons_zero, List.set_cons_succ]
  refine lv (by kernel_rfl) (some 113) rfl (v := ?_) ?_ ?_
  rotate_left
  · go_simp; try with_reducible rfl
  try simp only [Act.put, List.setIfInBounds_toArray, List.set_cons_zero, List.set_cons_succ]
  refine lv (by kernel_rfl) (some 114) rfl (v := ?_) ?_ ?_
  rotate_left
  · go_simp; try with_reducible rfl
  try simp only [Act.put, List.setIfInBounds_toArray, List.set_cons_zero, List.set_cons_succ]
  refine lv (by kernel_rfl) (some 115) rfl (v := ?_) ?_ ?_
  rotate_left
  · go_simp; try with_reducible rfl
  try simp only [Act.put, List.setIfInBounds_toArray, List.set_cons_zero, List.set_cons_succ]
  refine lv (by kernel_rfl) (some 116) rfl (v := ?_) ?_ ?_
  rotate_left
  · go_simp; try with_reducible rfl
  try simp only [Act.put, List.setIfInBounds_toArray, List.set_cons_zero, List.set_cons_succ]
  refine lv (by kernel_rfl) (some 117) rfl (v := ?_) ?_ ?_
  rotate_left
  · go_simp; try with_reducible rfl
  try simp only [Act.put, List.setIfInBounds_toArray, List.set_cons_zero, List.set_cons_succ]
  refine l_slice (by kernel_rfl) (some 118) rfl (rows (K4 r)).toArray 43 10 10 (by kernel_rfl) ?_
  have MB := M0.new rfl 43 (rows (K4 r)).toArray
  clear M0
  try simp only [List.cons_append, List.nil_append, List.set_cons_zero, List.set_cons_succ] at MB
  have TB := tab_new (MB.row (i := 2) rfl)
  try simp only [Act.put, List.setIfInBounds_toArray, List.set_cons_zero, List.set_cons_succ]
  refine ly MB (some 119) rfl (yi_row 0 26 (.tmp 3) rfl (by kernel_rfl) rfl rfl Try.underlying26 rfl (by kernel_rfl)) ?_
  try simp only [Act.put, List.setIfInBounds_toArray, List.set_cons_zero, List.set_cons_succ]
  refine l_call (by kernel_rfl) (some 120) rfl (c25 (cap := 10) TB) (by kernel_rfl) (fun s2 hb2 => ?_)
  have M2 := MB.call hb2
  clear hb2 MB TB
  try simp only [Act.put, List.setIfInBounds_toArray, List.set_cons_zero, List.set_cons_succ]
  refine lv (by kernel_rfl) (some 105) rfl (v := ?_) ?_ ?_
  rotate_left
  · go_simp; try with_reducible rfl
  try simp only [Act.put, List.setIfInBounds_toArray, List.set_cons_zero, List.set_cons_succ]
  refine lv (by kernel_rfl) (some 121) rfl (v := ?_) ?_ ?_
  rotate_left
  · go_simp; try with_reducible rfl
  try simp only [Act.put, List.setIfInBounds_toArray, List.set_cons_zero, List.set_cons_succ]
  refine lv (by kernel_rfl) (some 122) rfl (v := ?_) ?_ ?_
  rotate_left
  · go_simp; try with_reducible rfl
  try simp only [Act.put, List.setIfInBounds_toArray, List.set_cons_zero, List.set_cons_succ]
  refine l_alloc (by kernel_rfl) (some 11) rfl #[.int .i64 0, .int .i64 0, .int .i64 0, .int .i64 0, .int .i64 0] 43 (by kernel_rfl) ?_
  have M3 := M2.new rfl 43 #[.int .i64 0, .int .i64 0, .int .i64 0, .int .i64 0, .int .i64 0]
  clear M2
  try simp only [List.cons_append, List.nil_append, List.set_cons_zero, List.set_cons_succ] at M3
  try simp only [Act.put, List.setIfInBounds_toArray, List.set_cons_zero, List.set_cons_succ]
  refine l_store M3 3 (by kernel_rfl) 43 (.tmp 11) _ rfl rfl rfl rfl _ rfl (by kernel_rfl) (by rfl) (by kernel_rfl) _ rfl (fun s4 M4 => ?_)
  clear M3
  try simp only [List.cons_append, List.nil_append, List.set_cons_zero, List.set_cons_succ] at M4
  try simp only [Act.put, List.setIfInBounds_toArray, List.set_cons_zero, List.set_cons_succ]
  refine lv (by kernel_rfl) (some 12) rfl (v := ?_) ?_ ?_
  rotate_left
  · go_simp; try with_reducible rfl
  try simp only [Act.put, List.setIfInBounds_toArray, List.set_cons_zero, List.set_cons_succ]
  refine wpList_nil ?_
  go_upto_region 33 with fail
  refine wp_region_lit ?_
  refine lv (by kernel_rfl) (some 123) rfl (v := ?_) ?_ ?_
  rotate_left
  · go_simp; try with_reducible rfl
  try simp only [Act.put, List.setIfInBounds_toArray, List.set_cons_zero, List.set_cons_succ]
  refine lv (by kernel_rfl) (some 124) rfl (v := ?_) ?_ ?_
  rotate_left
  · go_simp; try with_reducible rfl
  try simp only [Act.put, List.setIfInBounds_toArray, List.set_cons_zero, List.set_cons_succ]
  refine wpList_nil ?_
  go_upto_region 34 with fail
  refine wp_region_lit ?_
  refine lv (by kernel_rfl) (some 125) rfl (v := ?_) ?_ ?_
  rotate_left
  · go_simp; try with_reducible rfl
  try simp only [Act.put, List.setIfInBounds_toArray, List.set_cons_zero, List.set_cons_succ]
  refine l_store M4 1 (by kernel_rfl) 26 (.tmp 6) _ rfl rfl rfl rfl _ rfl (by kernel_rfl) (by rfl) (by kernel_rfl) _ rfl (fun s5 M5 => ?_)
  clear M4
  try simp only [List.cons_append, List.nil_append, List.set_cons_zero, List.set_cons_succ] at M5
  try simp only [Act.put, List.setIfInBounds_toArray, List.set_cons_zero, List.set_cons_succ]
  refine lv (by kernel_rfl) (some 7) rfl (v := ?_) ?_ ?_
  rotate_left
  · go_simp; try with_reducible rfl
  try simp only [Act.put, List.setIfInBounds_toArray, List.set_cons_zero, List.set_cons_succ]
  refine wpList_nil ?_
  go_wp2_with fail
  exact bodyPost_ret (v := retM (none) d) (results_cell_tmp rfl (M5.row (i := 1) rfl) _ rfl _ rfl Try.underlying26 rfl (by kernel_rfl)) rfl ⟨rfl, M5.below⟩
set_option maxRecDepth 100000 in
set_option maxHeartbeats 4000000 in
theorem rto4_lp0 (k c r : Int) (d : ByteArray) (a b : Int) (w : World) (hs : Sides a b) (hwr : IntKind.i64.wrap r = r) (h2 : (k == 2) = false) (h4 : (k == 4) = true) (h0 : (c == 0) = false) (hf : fnd k c (K4 r) = none) :
    Calls Try.prog 16 #[msgV k c r d, .int .i64 a, .int .i64 b] w fun e w' => e = .returned (retM (none) d) ∧ Below w.heap.size w w' := by
  have c24 := fun w => rbounds_t a b w hs
  clear hs
  have c25 : ∀ {g cap : Nat} {w : World}, Tab g (K4 r) w → Calls Try.prog 25 #[.slice (some ⟨g, 0, none⟩) 10 cap, msgV k c r d] w fun e w' => e = .returned (.tuple #[.agg #[.int .i64 0, .int .i64 0, .int .i64 0, .int .i64 0, .int .i64 0], .bool false]) ∧ Below w.heap.size w w' := fun {g cap} {w} t => find_tab (cap := cap) (n := 10) (r := r) (d := d) hf rfl (by omega) t
  clear hf
  go_enter Try.func16, Try.ntmps16
  go_upto_region 1 with fail
  have M0 := Mem.two w 26 26 #[.int .i64 k, .int .i64 c, .int .u32 r, .string d] #[.int .i64 0, .int .i64 0, .int .u32 0, .string ⟨#[]⟩]
  refine wp_region_lit ?_
  refine lv (by kernel_rfl) (some 13) rfl (v := ?_) ?_ ?_
  rotate_left
  · go_simp; try with_reducible rfl
  try simp only [Act.put, List.setIfInBounds_toArray, List.set_cons_zero, List.set_cons_succ]
  refine lv (by kernel_rfl) (some 14) rfl (v := ?_) ?_ ?_
  rotate_left
  · go_simp; try with_reducible rfl
  try simp only [Act.put, List.setIfInBounds_toArray, List.set_cons_zero, List.set_cons_succ]
  refine l_same (by kernel_rfl) (some 15) rfl (c24 _) (by kernel_rfl) ?_
  try simp only [Act.put, List.setIfInBounds_toArray, List.set_cons_zero, List.set_cons_succ]
  refine lv (by kernel_rfl) (some 16) rfl (v := ?_) ?_ ?_
  rotate_left
  · go_simp; try with_reducible rfl
  try simp only [Act.put, List.setIfInBounds_toArray, List.set_cons_zero, List.set_cons_succ]
  refine wpList_nil ?_
  go_upto_region 3 with fail
  refine wp_region_lit ?_
  refine lv (by kernel_rfl) (some 18) rfl (v := ?_) ?_ ?_
  rotate_left
  · go_simp; try with_reducible rfl
  try simp only [Act.put, List.setIfInBounds_toArray, List.set_cons_zero, List.set_cons_succ]
  refine ly M0 (some 19) rfl (yi_cell 0 3 (.tmp 18) rfl (by kernel_rfl) rfl _ rfl (.int .i64 k) Try.underlying3 rfl rfl) ?_
  try simp only [Act.put, List.setIfInBounds_toArray, List.set_cons_zero, List.set_cons_succ]
  refine lv (by kernel_rfl) (some 20) rfl (v := ?_) ?_ ?_
  rotate_left
  · go_simp; try with_reducible rfl
  try simp only [Act.put, List.setIfInBounds_toArray, List.set_cons_zero, List.set_cons_succ]
  refine lv (by kernel_rfl) (some 21) rfl (v := ?_) ?_ ?_
  rotate_left
  · go_simp; try with_reducible rfl
  try simp only [Act.put, List.setIfInBounds_toArray, List.set_cons_zero, List.set_cons_succ]
  with_reducible refine lu (by kernel_rfl) (some 22) rfl ?_
  try simp only [Act.put, List.setIfInBounds_toArray, List.set_cons_zero, List.set_cons_succ]
  with_reducible refine lu (by kernel_rfl) (some 23) rfl ?_
  try simp only [Act.put, List.setIfInBounds_toArray, List.set_cons_zero, List.set_cons_succ]
  with_reducible refine lu (by kernel_rfl) (some 24) rfl ?_
  try simp only [Act.put, List.setIfInBounds_toArray, List.set_cons_zero, List.set_cons_succ]
  refine lv (by kernel_rfl) (some 25) rfl (v := ?_) ?_ ?_
  rotate_left
  · go_simp; try with_reducible rfl
  try simp only [Act.put, List.setIfInBounds_toArray, List.set_cons_zero, List.set_cons_succ]
  refine wpList_nil ?_
  go_upto_region 14 with fail
  refine wp_region_lit ?_
  refine lv (by kernel_rfl) (some 49) rfl (v := ?_) ?_ ?_
  rotate_left
  · go_simp; try with_reducible rfl
  try simp only [Act.put, List.setIfInBounds_toArray, List.set_cons_zero, List.set_cons_succ]
  refine ly M0 (some 50) rfl (yi_cell 0 3 (.tmp 49) rfl (by kernel_rfl) rfl _ rfl (.int .i64 k) Try.underlying3 rfl rfl) ?_
  try simp only [Act.put, List.setIfInBounds_toArray, List.set_cons_zero, List.set_cons_succ]
  refine lv (by kernel_rfl) (some 51) rfl (v := ?_) ?_ ?_
  rotate_left
  · go_simp; try with_reducible rfl
  try simp only [Act.put, List.setIfInBounds_toArray, List.set_cons_zero, List.set_cons_succ]
  refine lv (by kernel_rfl) (some 52) rfl (v := ?_) ?_ ?_
  rotate_left
  · go_simp; try with_reducible rfl
  try simp only [Act.put, List.setIfInBounds_toArray, List.set_cons_zero, List.set_cons_succ]
  refine lv (by kernel_rfl) (some 53) rfl (v := ?_) ?_ ?_
  rotate_left
  · go_simp; try with_reducible rfl
  try simp only [Act.put, List.setIfInBounds_toArray, List.set_cons_zero, List.set_cons_succ]
  refine ly M0 (some 54) rfl (yi_cell 0 3 (.tmp 53) rfl (by kernel_rfl) rfl _ rfl (.int .i64 c) Try.underlying3 rfl rfl) ?_
  try simp only [Act.put, List.setIfInBounds_toArray, List.set_cons_zero, List.set_cons_succ]
  refine lv (by kernel_rfl) (some 55) rfl (v := ?_) ?_ ?_
  rotate_left
  · go_simp; try with_reducible rfl
  try simp only [Act.put, List.setIfInBounds_toArray, List.set_cons_zero, List.set_cons_succ]
  refine lv (by kernel_rfl) (some 56) rfl (v := ?_) ?_ ?_
  rotate_left
  · go_simp; try with_reducible rfl
  try simp only [Act.put, List.setIfInBounds_toArray, List.set_cons_zero, List.set_cons_succ]
  refine wpList_nil ?_
  go_upto_region 31 with fail
  refine wp_region_lit ?_
  refine lv (by kernel_rfl) (some 102) rfl (v := ?_) ?_ ?_
  rotate_left
  · go_simp; try with_reducible rfl
  try simp only [Act.put, List.setIfInBounds_toArray, List.set_cons_zero, List.set_cons_succ]
  refine ly M0 (some 103) rfl (yi_cell 0 24 (.tmp 102) rfl (by kernel_rfl) rfl _ rfl (.int .u32 r) Try.underlying24 rfl rfl) ?_
  try simp only [Act.put, List.setIfInBounds_toArray, List.set_cons_zero, List.set_cons_succ]
  refine lv (by kernel_rfl) (some 104) rfl (v := ?_) ?_ ?_
  rotate_left
  · go_simp; try with_reducible rfl
  try simp only [Act.put, List.setIfInBounds_toArray, List.set_cons_zero, List.set_cons_succ]
  refine lv (by kernel_rfl) (some 10) rfl (v := ?_) ?_ ?_
  rotate_left
  · go_simp; try with_reducible rfl
  try simp only [Act.put, List.setIfInBounds_toArray, List.set_cons_zero, List.set_cons_succ]
  refine wpList_nil ?_
  go_upto_region 32 with fail
  refine wp_region_lit ?_
  refine lv (by kernel_rfl) (some 106) rfl (v := ?_) ?_ ?_
  rotate_left
  · go_simp; try with_reducible rfl
  try simp only [Act.put, List.setIfInBounds_toArray, List.set_cons_zero, List.set_cons_succ]
  refine lv (by kernel_rfl) (some 107) rfl (v := ?_) ?_ ?_
  rotate_left
  · go_simp; try with_reducible rfl
  try simp only [Act.put, List.setIfInBounds_toArray, List.set_cons_zero, List.set_cons_succ]
  refine lv (by kernel_rfl) (some 108) rfl (v := ?_) ?_ ?_
  rotate_left
  · go_simp; try with_reducible rfl
  try simp only [Act.put, List.setIfInBounds_toArray, List.set_cons_zero, List.set_cons_succ]
  refine lv (by kernel_rfl) (some 109) rfl (v := ?_) ?_ ?_
  rotate_left
  · go_simp; try with_reducible rfl
  try simp only [Act.put, List.setIfInBounds_toArray, List.set_cons_zero, List.set_cons_succ]
  refine lv (by kernel_rfl) (some 110) rfl (v := ?_) ?_ ?_
  rotate_left
  · go_simp; try with_reducible rfl
  try simp only [Act.put, List.setIfInBounds_toArray, List.set_cons_zero, List.set_cons_succ]
  refine lv (by kernel_rfl) (some 111) rfl (v := ?_) ?_ ?_
  rotate_left
  · go_simp; try with_reducible rfl
  try simp only [Act.put, List.setIfInBounds_toArray, List.set_cons_zero, List.set_cons_succ]
  refine lv (by kernel_rfl) (some 112) rfl (v := ?_) ?_ ?_
  rotate_left
  · go_simp; try with_reducible rfl
  try simp only [Act.put, List.setIfInBounds_toArray, List.set_cons_zero, List.set_cons_succ]
  refine lv (by kernel_rfl) (some 113) rfl (v := ?_) ?_ ?_
  rotate_left
  · go_simp; try with_reducible rfl
  try simp only [Act.put, List.setIfInBounds_toArray, List.set_cons_zero, List.set_cons_succ]
  refine lv (by kernel_rfl) (some 114) rfl (v := ?_) ?_ ?_
  rotate_left
  · go_simp; try with_reducible rfl
  try simp only [Act.put, List.setIfInBounds_toArray, List.set_cons_zero, List.set_cons_succ]
  refine lv (by kernel_rfl) (some 115) rfl (v := ?_) ?_ ?_
  rotate_left
  · go_simp; try with_reducible rfl
  try simp only [Act.put, List.setIfInBounds_toArray, List.set_cons_zero, List.set_cons_succ]
  refine lv (by kernel_rfl) (some 116) rfl (v := ?_) ?_ ?_
  rotate_left
  · go_simp; try with_reducible rfl
  try simp only [Act.put, List.setIfInBounds_toArray, List.set_cons_zero, List.set_cons_succ]
  refine lv (by kernel_rfl) (some 117) rfl (v := ?_) ?_ ?_
  rotate_left
  · go_simp; try with_reducible rfl
  try simp only [Act.put, List.setIfInBounds_toArray, List.set_cons_zero, List.set_cons_succ]
  refine l_slice (by kernel_rfl) (some 118) rfl (rows (K4 r)).toArray 43 10 10 (by kernel_rfl) ?_
  have MB := M0.new rfl 43 (rows (K4 r)).toArray
  clear M0
  try simp only [List.cons_append, List.nil_append, List.set_cons_zero, List.set_cons_succ] at MB
  have TB := tab_new (MB.row (i := 2) rfl)
  try simp only [Act.put, List.setIfInBounds_toArray, List.set_cons_zero, List.set_cons_succ]
  refine ly MB (some 119) rfl (yi_row 0 26 (.tmp 3) rfl (by kernel_rfl) rfl rfl Try.underlying26 rfl (by kernel_rfl)) ?_
  try simp only [Act.put, List.setIfInBounds_toArray, List.set_cons_zero, List.set_cons_succ]
  refine l_call (by kernel_rfl) (some 120) rfl (c25 (cap := 10) TB) (by kernel_rfl) (fun s2 hb2 => ?_)
  have M2 := MB.call hb2
  clear hb2 MB TB
  try simp only [Act.put, List.setIfInBounds_toArray, List.set_cons_zero, List.set_cons_succ]
  refine lv (by kernel_rfl) (some 105) rfl (v := ?_) ?_ ?_
  rotate_left
  · go_simp; try with_reducible rfl
  try simp only [Act.put, List.setIfInBounds_toArray, List.set_cons_zero, List.set_cons_succ]
  refine lv (by kernel_rfl) (some 121) rfl (v := ?_) ?_ ?_
  rotate_left
  · go_simp; try with_reducible rfl
  try simp only [Act.put, List.setIfInBounds_toArray, List.set_cons_zero, List.set_cons_succ]
  refine lv (by kernel_rfl) (some 122) rfl (v := ?_) ?_ ?_
  rotate_left
  · go_simp; try with_reducible rfl
  try simp only [Act.put, List.setIfInBounds_toArray, List.set_cons_zero, List.set_cons_succ]
  refine l_alloc (by kernel_rfl) (some 11) rfl #[.int .i64 0, .int .i64 0, .int .i64 0, .int .i64 0, .int .i64 0] 43 (by kernel_rfl) ?_
  have M3 := M2.new rfl 43 #[.int .i64 0, .int .i64 0, .int .i64 0, .int .i64 0, .int .i64 0]
  clear M2
  try simp only [List.cons_append, List.nil_append, List.set_cons_zero, List.set_cons_succ] at M3
  try simp only [Act.put, List.setIfInBounds_toArray, List.set_cons_zero, List.set_cons_succ]
  refine l_store M3 3 (by kernel_rfl) 43 (.tmp 11) _ rfl rfl rfl rfl _ rfl (by kernel_rfl) (by rfl) (by kernel_rfl) _ rfl (fun s4 M4 => ?_)
  clear M3
  try simp only [List.cons_append, List.nil_append, List.set_cons_zero, List.set_cons_succ] at M4
  try simp only [Act.put, List.setIfInBounds_toArray, List.set_cons_zero, List.set_cons_succ]
  refine lv (by kernel_rfl) (some 12) rfl (v := ?_) ?_ ?_
  rotate_left
  · go_simp; try with_reducible rfl
  try simp only [Act.put, List.setIfInBounds_toArray, List.set_cons_zero, List.set_cons_succ]
  refine wpList_nil ?_
  go_upto_region 33 with fail
  refine wp_region_lit ?_
  refine lv (by kernel_rfl) (some 123) rfl (v := ?_) ?_ ?_
  rotate_left
  · go_simp; try with_reducible rfl
  try simp only [Act.put, List.setIfInBounds_toArray, List.set_cons_zero, List.set_cons_succ]
  refine lv (by kernel_rfl) (some 124) rfl (v := ?_) ?_ ?_
  rotate_left
  · go_simp; try with_reducible rfl
  try simp only [Act.put, List.setIfInBounds_toArray, List.set_cons_zero, List.set_cons_succ]
  refine wpList_nil ?_
  go_upto_region 34 with fail
  refine wp_region_lit ?_
  refine lv (by kernel_rfl) (some 125) rfl (v := ?_) ?_ ?_
  rotate_left
  · go_simp; try with_reducible rfl
  try simp only [Act.put, List.setIfInBounds_toArray, List.set_cons_zero, List.set_cons_succ]
  refine l_store M4 1 (by kernel_rfl) 26 (.tmp 6) _ rfl rfl rfl rfl _ rfl (by kernel_rfl) (by rfl) (by kernel_rfl) _ rfl (fun s5 M5 => ?_)
  clear M4
  try simp only [List.cons_append, List.nil_append, List.set_cons_zero, List.set_cons_succ] at M5
  try simp only [Act.put, List.setIfInBounds_toArray, List.set_cons_zero, List.set_cons_succ]
  refine lv (by kernel_rfl) (some 7) rfl (v := ?_) ?_ ?_
  rotate_left
  · go_simp; try with_reducible rfl
  try simp only [Act.put, List.setIfInBounds_toArray, List.set_cons_zero, List.set_cons_succ]
  refine wpList_nil ?_
  go_wp2_with fail
  exact bodyPost_ret (v := retM (none) d) (results_cell_tmp rfl (M5.row (i := 1) rfl) _ rfl _ rfl Try.underlying26 rfl (by kernel_rfl)) rfl ⟨rfl, M5.below⟩
set_option maxRecDepth 100000 in
set_option maxHeartbeats 4000000 in
theorem rto4_lp1 (k c r x y z : Int) (d : ByteArray) (a b : Int) (w : World) (hs : Sides a b) (hwr : IntKind.i64.wrap r = r) (h2 : (k == 2) = false) (h4 : (k == 4) = true) (h0 : (c == 0) = false) (hf : fnd k c (K4 r) = some (x, y, z)) (hz : IntKind.u32.wrap z = z) :
    Calls Try.prog 16 #[msgV k c r d, .int .i64 a, .int .i64 b] w fun e w' => e = .returned (retM (some (x, y, z)) d) ∧ Below w.heap.size w w' := by
  have c24 := fun w => rbounds_t a b w hs
  clear hs
  have c25 : ∀ {g cap : Nat} {w : World}, Tab g (K4 r) w → Calls Try.prog 25 #[.slice (some ⟨g, 0, none⟩) 10 cap, msgV k c r d] w fun e w' => e = .returned (.tuple #[.agg #[.int .i64 k, .int .i64 c, .int .i64 x, .int .i64 y, .int .i64 z], .bool true]) ∧ Below w.heap.size w w' := fun {g cap} {w} t => find_tab (cap := cap) (n := 10) (r := r) (d := d) hf rfl (by omega) t
  clear hf
  go_enter Try.func16, Try.ntmps16
  go_upto_region 1 with fail
  have M0 := Mem.two w 26 26 #[.int .i64 k, .int .i64 c, .int .u32 r, .string d] #[.int .i64 0, .int .i64 0, .int .u32 0, .string ⟨#[]⟩]
  refine wp_region_lit ?_
  refine lv (by kernel_rfl) (some 13) rfl (v := ?_) ?_ ?_
  rotate_left
  · go_simp; try with_reducible rfl
  try simp only [Act.put, List.setIfInBounds_toArray, List.set_cons_zero, List.set_cons_succ]
  refine lv (by kernel_rfl) (some 14) rfl (v := ?_) ?_ ?_
  rotate_left
  · go_simp; try with_reducible rfl
  try simp only [Act.put, List.setIfInBounds_toArray, List.set_cons_zero, List.set_cons_succ]
  refine l_same (by kernel_rfl) (some 15) rfl (c24 _) (by kernel_rfl) ?_
  try simp only [Act.put, List.setIfInBounds_toArray, List.set_cons_zero, List.set_cons_succ]
  refine lv (by kernel_rfl) (some 16) rfl (v := ?_) ?_ ?_
  rotate_left
  · go_simp; try with_reducible rfl
  try simp only [Act.put, List.setIfInBounds_toArray, List.set_cons_zero, List.set_cons_succ]
  refine wpList_nil ?_
  go_upto_region 3 with fail
  refine wp_region_lit ?_
  refine lv (by kernel_rfl) (some 18) rfl (v := ?_) ?_ ?_
  rotate_left
  · go_simp; try with_reducible rfl
  try simp only [Act.put, List.setIfInBounds_toArray, List.set_cons_zero, List.set_cons_succ]
  refine ly M0 (some 19) rfl (yi_cell 0 3 (.tmp 18) rfl (by kernel_rfl) rfl _ rfl (.int .i64 k) Try.underlying3 rfl rfl) ?_
  try simp only [Act.put, List.setIfInBounds_toArray, List.set_cons_zero, List.set_cons_succ]
  refine lv (by kernel_rfl) (some 20) rfl (v := ?_) ?_ ?_
  rotate_left
  · go_simp; try with_reducible rfl
  try simp only [Act.put, List.setIfInBounds_toArray, List.set_cons_zero, List.set_cons_succ]
  refine lv (by kernel_rfl) (some 21) rfl (v := ?_) ?_ ?_
  rotate_left
  · go_simp; try with_reducible rfl
  try simp only [Act.put, List.setIfInBounds_toArray, List.set_cons_zero, List.set_cons_succ]
  with_reducible refine lu (by kernel_rfl) (some 22) rfl ?_
  try simp only [Act.put, List.setIfInBounds_toArray, List.set_cons_zero, List.set_cons_succ]
  with_reducible refine lu (by kernel_rfl) (some 23) rfl ?_
  try simp only [Act.put, List.setIfInBounds_toArray, List.set_cons_zero, List.set_cons_succ]
  with_reducible refine lu (by kernel_rfl) (some 24) rfl ?_
  try simp only [Act.put, List.setIfInBounds_toArray, List.set_cons_zero, List.set_cons_succ]
  refine lv (by kernel_rfl) (some 25) rfl (v := ?_) ?_ ?_
  rotate_left
  · go_simp; try with_reducible rfl
  try simp only [Act.put, List.setIfInBounds_toArray, List.set_cons_zero, List.set_cons_succ]
  refine wpList_nil ?_
  go_upto_region 14 with fail
  refine wp_region_lit ?_
  refine lv (by kernel_rfl) (some 49) rfl (v := ?_) ?_ ?_
  rotate_left
  · go_simp; try with_reducible rfl
  try simp only [Act.put, List.setIfInBounds_toArray, List.set_cons_zero, List.set_cons_succ]
  refine ly M0 (some 50) rfl (yi_cell 0 3 (.tmp 49) rfl (by kernel_rfl) rfl _ rfl (.int .i64 k) Try.underlying3 rfl rfl) ?_
  try simp only [Act.put, List.setIfInBounds_toArray, List.set_cons_zero, List.set_cons_succ]
  refine lv (by kernel_rfl) (some 51) rfl (v := ?_) ?_ ?_
  rotate_left
  · go_simp; try with_reducible rfl
  try simp only [Act.put, List.setIfInBounds_toArray, List.set_cons_zero, List.set_cons_succ]
  refine lv (by kernel_rfl) (some 52) rfl (v := ?_) ?_ ?_
  rotate_left
  · go_simp; try with_reducible rfl
  try simp only [Act.put, List.setIfInBounds_toArray, List.set_cons_zero, List.set_cons_succ]
  refine lv (by kernel_rfl) (some 53) rfl (v := ?_) ?_ ?_
  rotate_left
  · go_simp; try with_reducible rfl
  try simp only [Act.put, List.setIfInBounds_toArray, List.set_cons_zero, List.set_cons_succ]
  refine ly M0 (some 54) rfl (yi_cell 0 3 (.tmp 53) rfl (by kernel_rfl) rfl _ rfl (.int .i64 c) Try.underlying3 rfl rfl) ?_
  try simp only [Act.put, List.setIfInBounds_toArray, List.set_cons_zero, List.set_cons_succ]
  refine lv (by kernel_rfl) (some 55) rfl (v := ?_) ?_ ?_
  rotate_left
  · go_simp; try with_reducible rfl
  try simp only [Act.put, List.setIfInBounds_toArray, List.set_cons_zero, List.set_cons_succ]
  refine lv (by kernel_rfl) (some 56) rfl (v := ?_) ?_ ?_
  rotate_left
  · go_simp; try with_reducible rfl
  try simp only [Act.put, List.setIfInBounds_toArray, List.set_cons_zero, List.set_cons_succ]
  refine wpList_nil ?_
  go_upto_region 31 with fail
  refine wp_region_lit ?_
  refine lv (by kernel_rfl) (some 102) rfl (v := ?_) ?_ ?_
  rotate_left
  · go_simp; try with_reducible rfl
  try simp only [Act.put, List.setIfInBounds_toArray, List.set_cons_zero, List.set_cons_succ]
  refine ly M0 (some 103) rfl (yi_cell 0 24 (.tmp 102) rfl (by kernel_rfl) rfl _ rfl (.int .u32 r) Try.underlying24 rfl rfl) ?_
  try simp only [Act.put, List.setIfInBounds_toArray, List.set_cons_zero, List.set_cons_succ]
  refine lv (by kernel_rfl) (some 104) rfl (v := ?_) ?_ ?_
  rotate_left
  · go_simp; try with_reducible rfl
  try simp only [Act.put, List.setIfInBounds_toArray, List.set_cons_zero, List.set_cons_succ]
  refine lv (by kernel_rfl) (some 10) rfl (v := ?_) ?_ ?_
  rotate_left
  · go_simp; try with_reducible rfl
  try simp only [Act.put, List.setIfInBounds_toArray, List.set_cons_zero, List.set_cons_succ]
  refine wpList_nil ?_
  go_upto_region 32 with fail
  refine wp_region_lit ?_
  refine lv (by kernel_rfl) (some 106) rfl (v := ?_) ?_ ?_
  rotate_left
  · go_simp; try with_reducible rfl
  try simp only [Act.put, List.setIfInBounds_toArray, List.set_cons_zero, List.set_cons_succ]
  refine lv (by kernel_rfl) (some 107) rfl (v := ?_) ?_ ?_
  rotate_left
  · go_simp; try with_reducible rfl
  try simp only [Act.put, List.setIfInBounds_toArray, List.set_cons_zero, List.set_cons_succ]
  refine lv (by kernel_rfl) (some 108) rfl (v := ?_) ?_ ?_
  rotate_left
  · go_simp; try with_reducible rfl
  try simp only [Act.put, List.setIfInBounds_toArray, List.set_cons_zero, List.set_cons_succ]
  refine lv (by kernel_rfl) (some 109) rfl (v := ?_) ?_ ?_
  rotate_left
  · go_simp; try with_reducible rfl
  try simp only [Act.put, List.setIfInBounds_toArray, List.set_cons_zero, List.set_cons_succ]
  refine lv (by kernel_rfl) (some 110) rfl (v := ?_) ?_ ?_
  rotate_left
  · go_simp; try with_reducible rfl
  try simp only [Act.put, List.setIfInBounds_toArray, List.set_cons_zero, List.set_cons_succ]
  refine lv (by kernel_rfl) (some 111) rfl (v := ?_) ?_ ?_
  rotate_left
  · go_simp; try with_reducible rfl
  try simp only [Act.put, List.setIfInBounds_toArray, List.set_cons_zero, List.set_cons_succ]
  refine lv (by kernel_rfl) (some 112) rfl (v := ?_) ?_ ?_
  rotate_left
  · go_simp; try with_reducible rfl
  try simp only [Act.put, List.setIfInBounds_toArray, List.set_cons_zero, List.set_cons_succ]
  refine lv (by kernel_rfl) (some 113) rfl (v := ?_) ?_ ?_
  rotate_left
  · go_simp; try with_reducible rfl
  try simp only [Act.put, List.setIfInBounds_toArray, List.set_cons_zero, List.set_cons_succ]
  refine lv (by kernel_rfl) (some 114) rfl (v := ?_) ?_ ?_
  rotate_left
  · go_simp; try with_reducible rfl
  try simp only [Act.put, List.setIfInBounds_toArray, List.set_cons_zero, List.set_cons_succ]
  refine lv (by kernel_rfl) (some 115) rfl (v := ?_) ?_ ?_
  rotate_left
  · go_simp; try with_reducible rfl
  try simp only [Act.put, List.setIfInBounds_toArray, List.set_cons_zero, List.set_cons_succ]
  refine lv (by kernel_rfl) (some 116) rfl (v := ?_) ?_ ?_
  rotate_left
  · go_simp; try with_reducible rfl
  try simp only [Act.put, List.setIfInBounds_toArray, List.set_cons_zero, List.set_cons_succ]
  refine lv (by kernel_rfl) (some 117) rfl (v := ?_) ?_ ?_
  rotate_left
  · go_simp; try with_reducible rfl
  try simp only [Act.put, List.setIfInBounds_toArray, List.set_cons_zero, List.set_cons_succ]
  refine l_slice (by kernel_rfl) (some 118) rfl (rows (K4 r)).toArray 43 10 10 (by kernel_rfl) ?_
  have MB := M0.new rfl 43 (rows (K4 r)).toArray
  clear M0
  try simp only [List.cons_append, List.nil_append, List.set_cons_zero, List.set_cons_succ] at MB
  have TB := tab_new (MB.row (i := 2) rfl)
  try simp only [Act.put, List.setIfInBounds_toArray, List.set_cons_zero, List.set_cons_succ]
  refine ly MB (some 119) rfl (yi_row 0 26 (.tmp 3) rfl (by kernel_rfl) rfl rfl Try.underlying26 rfl (by kernel_rfl)) ?_
  try simp only [Act.put, List.setIfInBounds_toArray, List.set_cons_zero, List.set_cons_succ]
  refine l_call (by kernel_rfl) (some 120) rfl (c25 (cap := 10) TB) (by kernel_rfl) (fun s2 hb2 => ?_)
  have M2 := MB.call hb2
  clear hb2 MB TB
  try simp only [Act.put, List.setIfInBounds_toArray, List.set_cons_zero, List.set_cons_succ]
  refine lv (by kernel_rfl) (some 105) rfl (v := ?_) ?_ ?_
  rotate_left
  · go_simp; try with_reducible rfl
  try simp only [Act.put, List.setIfInBounds_toArray, List.set_cons_zero, List.set_cons_succ]
  refine lv (by kernel_rfl) (some 121) rfl (v := ?_) ?_ ?_
  rotate_left
  · go_simp; try with_reducible rfl
  try simp only [Act.put, List.setIfInBounds_toArray, List.set_cons_zero, List.set_cons_succ]
  refine lv (by kernel_rfl) (some 122) rfl (v := ?_) ?_ ?_
  rotate_left
  · go_simp; try with_reducible rfl
  try simp only [Act.put, List.setIfInBounds_toArray, List.set_cons_zero, List.set_cons_succ]
  refine l_alloc (by kernel_rfl) (some 11) rfl #[.int .i64 0, .int .i64 0, .int .i64 0, .int .i64 0, .int .i64 0] 43 (by kernel_rfl) ?_
  have M3 := M2.new rfl 43 #[.int .i64 0, .int .i64 0, .int .i64 0, .int .i64 0, .int .i64 0]
  clear M2
  try simp only [List.cons_append, List.nil_append, List.set_cons_zero, List.set_cons_succ] at M3
  try simp only [Act.put, List.setIfInBounds_toArray, List.set_cons_zero, List.set_cons_succ]
  refine l_store M3 3 (by kernel_rfl) 43 (.tmp 11) _ rfl rfl rfl rfl _ rfl (by kernel_rfl) (by rfl) (by kernel_rfl) _ rfl (fun s4 M4 => ?_)
  clear M3
  try simp only [List.cons_append, List.nil_append, List.set_cons_zero, List.set_cons_succ] at M4
  try simp only [Act.put, List.setIfInBounds_toArray, List.set_cons_zero, List.set_cons_succ]
  refine lv (by kernel_rfl) (some 12) rfl (v := ?_) ?_ ?_
  rotate_left
  · go_simp; try with_reducible rfl
  try simp only [Act.put, List.setIfInBounds_toArray, List.set_cons_zero, List.set_cons_succ]
  refine wpList_nil ?_
  go_upto_region 33 with fail
  refine wp_region_lit ?_
  refine lv (by kernel_rfl) (some 123) rfl (v := ?_) ?_ ?_
  rotate_left
  · go_simp; try with_reducible rfl
  try simp only [Act.put, List.setIfInBounds_toArray, List.set_cons_zero, List.set_cons_succ]
  refine lv (by kernel_rfl) (some 124) rfl (v := ?_) ?_ ?_
  rotate_left
  · go_simp; try with_reducible rfl
  try simp only [Act.put, List.setIfInBounds_toArray, List.set_cons_zero, List.set_cons_succ]
  refine wpList_nil ?_
  go_upto_region 35 with fail
  refine wp_region_lit ?_
  refine lv (by kernel_rfl) (some 126) rfl (v := ?_) ?_ ?_
  rotate_left
  · go_simp; try with_reducible rfl
  try simp only [Act.put, List.setIfInBounds_toArray, List.set_cons_zero, List.set_cons_succ]
  refine ly M4 (some 127) rfl (yi_cell 3 3 (.tmp 126) rfl (by kernel_rfl) rfl _ rfl (.int .i64 x) Try.underlying3 rfl rfl) ?_
  try simp only [Act.put, List.setIfInBounds_toArray, List.set_cons_zero, List.set_cons_succ]
  refine lv (by kernel_rfl) (some 128) rfl (v := ?_) ?_ ?_
  rotate_left
  · go_simp; try with_reducible rfl
  try simp only [Act.put, List.setIfInBounds_toArray, List.set_cons_zero, List.set_cons_succ]
  refine ly M4 (some 129) rfl (yi_cell 3 3 (.tmp 128) rfl (by kernel_rfl) rfl _ rfl (.int .i64 y) Try.underlying3 rfl rfl) ?_
  try simp only [Act.put, List.setIfInBounds_toArray, List.set_cons_zero, List.set_cons_succ]
  refine lv (by kernel_rfl) (some 130) rfl (v := ?_) ?_ ?_
  rotate_left
  · go_simp; try with_reducible rfl
  try simp only [Act.put, List.setIfInBounds_toArray, List.set_cons_zero, List.set_cons_succ]
  refine ly M4 (some 131) rfl (yi_cell 3 3 (.tmp 130) rfl (by kernel_rfl) rfl _ rfl (.int .i64 z) Try.underlying3 rfl rfl) ?_
  try simp only [Act.put, List.setIfInBounds_toArray, List.set_cons_zero, List.set_cons_succ]
  refine lv (by kernel_rfl) (some 132) rfl (v := ?_) ?_ ?_
  rotate_left
  · go_simp; try with_reducible rfl
  try simp only [Act.put, List.setIfInBounds_toArray, List.set_cons_zero, List.set_cons_succ]
  refine lv (by kernel_rfl) (some 133) rfl (v := ?_) ?_ ?_
  rotate_left
  · go_simp; try with_reducible rfl
  try simp only [Act.put, List.setIfInBounds_toArray, List.set_cons_zero, List.set_cons_succ]
  refine ly M4 (some 134) rfl (yi_cell 0 9 (.tmp 133) rfl (by kernel_rfl) rfl _ rfl (.string d) Try.underlying9 rfl rfl) ?_
  try simp only [Act.put, List.setIfInBounds_toArray, List.set_cons_zero, List.set_cons_succ]
  refine lv (by kernel_rfl) (some 135) rfl (v := ?_) ?_ ?_
  rotate_left
  · go_simp; try with_reducible rfl
  try simp only [Act.put, List.setIfInBounds_toArray, List.set_cons_zero, List.set_cons_succ]
  refine l_store M4 1 (by kernel_rfl) 26 (.tmp 6) _ rfl rfl rfl rfl _ rfl (by kernel_rfl) (by rfl) (by kernel_rfl) _ rfl (fun s5 M5 => ?_)
  clear M4
  try simp only [List.cons_append, List.nil_append, List.set_cons_zero, List.set_cons_succ] at M5
  try simp only [Act.put, List.setIfInBounds_toArray, List.set_cons_zero, List.set_cons_succ]
  refine lv (by kernel_rfl) (some 7) rfl (v := ?_) ?_ ?_
  rotate_left
  · go_simp; try with_reducible rfl
  try simp only [Act.put, List.setIfInBounds_toArray, List.set_cons_zero, List.set_cons_succ]
  refine wpList_nil ?_
  go_wp2_with fail
  exact bodyPost_ret (v := retM (some (x, y, z)) d) (results_cell_tmp rfl (M5.row (i := 1) rfl) _ rfl _ rfl Try.underlying26 rfl (by kernel_rfl)) rfl ⟨rfl, M5.below⟩
end Go.Proofs.Ytcppckpkiloilaa
