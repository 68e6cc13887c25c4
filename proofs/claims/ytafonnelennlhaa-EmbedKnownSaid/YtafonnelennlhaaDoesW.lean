/-
  The walk of the law EmbedDoes: it returns true, and what was there stays. Condition: the bytes are bytes.
-/
import Derived.Test.YtafonnelennlhaaK
namespace Go.Proofs.Ytafonnelennlhaa
open Go.RowKit
set_option linter.unusedSimpArgs false
set_option linter.unusedVariables false

theorem embed_both (P A : Nat → Int) (n : Int) : ∃ (E : Nat → Int) (e : Bool), (∀ w, Calls Try.prog 10 #[net P n, .agg (a4 A)] w fun x w' => x = .returned (.tuple #[.agg (a16 E), .bool e]) ∧ Below w.heap.size w w') ∧
    (∀ w, Calls Try.prog 16 #[net P n, .agg (a4 A)] w fun x w' => x = .returned (.tuple #[.agg (a16 E), .bool e]) ∧ Below w.heap.size w w') := by
  by_cases h : RightP P n
  · exact ⟨_, true, fun w => embed_t h A w, fun w => rembed_t h A w⟩
  · exact ⟨_, false, fun w => embed_n h A w, fun w => rembed_f h A w⟩
theorem extract_both {P X : Nat → Int} (n : Int) (bp : Bytes 16 P) (bx : Bytes 16 X) : ∃ (E : Nat → Int) (e : Bool), (∀ w, Calls Try.prog 12 #[net P n, .agg (a16 X)] w fun x w' => x = .returned (.tuple #[.agg (a4 E), .bool e]) ∧ Below w.heap.size w w') ∧
    (∀ w, Calls Try.prog 17 #[net P n, .agg (a16 X)] w fun x w' => x = .returned (.tuple #[.agg (a4 E), .bool e]) ∧ Below w.heap.size w w') := by
  by_cases h : InsideP P X n ∧ X 8 = 0
  · exact ⟨_, true, fun w => extract_t bp bx h.1 h.2 w, fun w => rextract_t h.1 h.2 w⟩
  · exact ⟨_, false, fun w => extract_n bp bx h w, fun w => rextract_n h w⟩
theorem right_both (P : Nat → Int) (n : Int) : ∃ r : Bool, (∀ w, Calls Try.prog 15 #[net P n] w fun x w' => x = .returned (.bool r) ∧ Below w.heap.size w w') ∧ (∀ w, Calls Try.prog 18 #[net P n] w fun x w' => x = .returned (.bool r) ∧ Below w.heap.size w w') := by
  by_cases h : RightP P n
  · exact ⟨true, fun w => right_t P n w h, fun w => rright_t P n w h⟩
  · exact ⟨false, fun w => right_f P n w h, fun w => rright_f P n w h⟩
theorem inside_both {P X : Nat → Int} (n : Int) (bp : Bytes 16 P) (bx : Bytes 16 X) : ∃ r : Bool, (∀ w, Calls Try.prog 19 #[net P n, .agg (a16 X)] w fun x w' => x = .returned (.bool r) ∧ Below w.heap.size w w') ∧ (∀ w, Calls Try.prog 20 #[net P n, .agg (a16 X)] w fun x w' => x = .returned (.bool r) ∧ Below w.heap.size w w') := by
  by_cases h : InsideP P X n
  · exact ⟨true, fun w => inside_t bp bx h w, fun w => rinside_any P X n w true (by simp [h])⟩
  · exact ⟨false, fun w => inside_n bp bx h w, fun w => rinside_any P X n w false (by simp [h])⟩
set_option maxRecDepth 100000 in
set_option maxHeartbeats 4000000 in
theorem does_walk (P A X : Nat → Int) (n : Int) (w : World) (bp : Bytes 16 P) (bx : Bytes 16 X) :
    Calls Try.prog 4 #[net P n, .agg (a4 A), .agg (a16 X)] w fun e w' => e = .returned (.bool true) ∧ Below w.heap.size w w' := by
  obtain ⟨E, e, c10, c16⟩ := embed_both P A n
  obtain ⟨D, g, c12, c17⟩ := extract_both n bp bx
  obtain ⟨r, c15, c18⟩ := right_both P n
  obtain ⟨i, c19, c20⟩ := inside_both n bp bx
  have e16 : ∀ w, (Op.equalIn 10000 23 (.agg (a16 E)) (.agg (a16 E))).run Try.prog w = .ok true w := fun w => eq16 (r := true) (by simp [EqTo]) w
  have e4 : ∀ w, (Op.equalIn 10000 31 (.agg (a4 D)) (.agg (a4 D))).run Try.prog w = .ok true w := fun w => eq4 (r := true) (by simp [EqTo]) w
  clear bp bx
  go_enter Try.func4, Try.ntmps4
  go_upto_region 1 with fail
  refine hide_w (Mem.three w 26 31 23 #[.int .u8 (P 0), .int .u8 (P 1), .int .u8 (P 2), .int .u8 (P 3), .int .u8 (P 4), .int .u8 (P 5), .int .u8 (P 6), .int .u8 (P 7), .int .u8 (P 8), .int .u8 (P 9), .int .u8 (P 10), .int .u8 (P 11), .int .u8 (P 12), .int .u8 (P 13), .int .u8 (P 14), .int .u8 (P 15), .int .i64 n] (a4 A) (a16 X)) (fun w0 M0 => ?_)
  refine wp_region_lit ?_
  refine l_call rfl (some 15) rfl (awake_any _) (by kernel_rfl) (fun s1 hb1 => ?_)
  have M1 := M0.call hb1
  clear hb1 M0
  try simp only [Act.put, List.setIfInBounds_toArray, List.set_cons_zero, List.set_cons_succ]
  refine lv (by kernel_rfl) (some 16) rfl (v := ?_) ?_ ?_
  rotate_left
  · go_simp; try with_reducible rfl
  try simp only [Act.put, List.setIfInBounds_toArray, List.set_cons_zero, List.set_cons_succ]
  refine wpList_nil ?_
  go_upto_region 3 with fail
  refine wp_region_lit ?_
  refine ly M1 (some 18) rfl (yi_row 0 26 (.tmp 3) rfl rfl rfl rfl Try.underlying26 rfl (by kernel_rfl)) ?_
  try simp only [Act.put, List.setIfInBounds_toArray, List.set_cons_zero, List.set_cons_succ]
  refine ly M1 (some 19) rfl (yi_row 1 31 (.tmp 4) rfl rfl rfl rfl Try.underlying31 rfl (by kernel_rfl)) ?_
  try simp only [Act.put, List.setIfInBounds_toArray, List.set_cons_zero, List.set_cons_succ]
  refine l_call rfl (some 20) rfl (c10 _) (by kernel_rfl) (fun s2 hb2 => ?_)
  have M2 := M1.call hb2
  clear hb2 M1
  try simp only [Act.put, List.setIfInBounds_toArray, List.set_cons_zero, List.set_cons_succ]
  refine lv (by kernel_rfl) (some 17) rfl (v := ?_) ?_ ?_
  rotate_left
  · go_simp; try with_reducible rfl
  try simp only [Act.put, List.setIfInBounds_toArray, List.set_cons_zero, List.set_cons_succ]
  refine lv (by kernel_rfl) (some 21) rfl (v := ?_) ?_ ?_
  rotate_left
  · go_simp; try with_reducible rfl
  try simp only [Act.put, List.setIfInBounds_toArray, List.set_cons_zero, List.set_cons_succ]
  refine lv (by kernel_rfl) (some 22) rfl (v := ?_) ?_ ?_
  rotate_left
  · go_simp; try with_reducible rfl
  try simp only [Act.put, List.setIfInBounds_toArray, List.set_cons_zero, List.set_cons_succ]
  refine l_alloc rfl (some 7) rfl #[.int .u8 0, .int .u8 0, .int .u8 0, .int .u8 0, .int .u8 0, .int .u8 0, .int .u8 0, .int .u8 0, .int .u8 0, .int .u8 0, .int .u8 0, .int .u8 0, .int .u8 0, .int .u8 0, .int .u8 0, .int .u8 0] 23 (by kernel_rfl) ?_
  have M3 := M2.new rfl 23 #[.int .u8 0, .int .u8 0, .int .u8 0, .int .u8 0, .int .u8 0, .int .u8 0, .int .u8 0, .int .u8 0, .int .u8 0, .int .u8 0, .int .u8 0, .int .u8 0, .int .u8 0, .int .u8 0, .int .u8 0, .int .u8 0]
  clear M2
  try simp only [List.cons_append, List.nil_append, List.set_cons_zero, List.set_cons_succ] at M3
  try simp only [Act.put, List.setIfInBounds_toArray, List.set_cons_zero, List.set_cons_succ]
  refine l_store M3 3 rfl 23 (.tmp 7) _ rfl rfl rfl rfl _ rfl (by kernel_rfl) (by rfl) (by kernel_rfl) _ rfl (fun s4 M4 => ?_)
  clear M3
  try simp only [List.cons_append, List.nil_append, List.set_cons_zero, List.set_cons_succ] at M4
  try simp only [Act.put, List.setIfInBounds_toArray, List.set_cons_zero, List.set_cons_succ]
  refine lv (by kernel_rfl) (some 8) rfl (v := ?_) ?_ ?_
  rotate_left
  · go_simp; try with_reducible rfl
  try simp only [Act.put, List.setIfInBounds_toArray, List.set_cons_zero, List.set_cons_succ]
  refine wpList_nil ?_
  go_upto_region 4 with fail
  refine wp_region_lit ?_
  refine ly M4 (some 24) rfl (yi_row 0 26 (.tmp 3) rfl rfl rfl rfl Try.underlying26 rfl (by kernel_rfl)) ?_
  try simp only [Act.put, List.setIfInBounds_toArray, List.set_cons_zero, List.set_cons_succ]
  refine ly M4 (some 25) rfl (yi_row 1 31 (.tmp 4) rfl rfl rfl rfl Try.underlying31 rfl (by kernel_rfl)) ?_
  try simp only [Act.put, List.setIfInBounds_toArray, List.set_cons_zero, List.set_cons_succ]
  refine l_call rfl (some 26) rfl (c16 _) (by kernel_rfl) (fun s5 hb5 => ?_)
  have M5 := M4.call hb5
  clear hb5 M4
  try simp only [Act.put, List.setIfInBounds_toArray, List.set_cons_zero, List.set_cons_succ]
  refine lv (by kernel_rfl) (some 23) rfl (v := ?_) ?_ ?_
  rotate_left
  · go_simp; try with_reducible rfl
  try simp only [Act.put, List.setIfInBounds_toArray, List.set_cons_zero, List.set_cons_succ]
  refine lv (by kernel_rfl) (some 27) rfl (v := ?_) ?_ ?_
  rotate_left
  · go_simp; try with_reducible rfl
  try simp only [Act.put, List.setIfInBounds_toArray, List.set_cons_zero, List.set_cons_succ]
  refine lv (by kernel_rfl) (some 28) rfl (v := ?_) ?_ ?_
  rotate_left
  · go_simp; try with_reducible rfl
  try simp only [Act.put, List.setIfInBounds_toArray, List.set_cons_zero, List.set_cons_succ]
  refine l_alloc rfl (some 9) rfl #[.int .u8 0, .int .u8 0, .int .u8 0, .int .u8 0, .int .u8 0, .int .u8 0, .int .u8 0, .int .u8 0, .int .u8 0, .int .u8 0, .int .u8 0, .int .u8 0, .int .u8 0, .int .u8 0, .int .u8 0, .int .u8 0] 23 (by kernel_rfl) ?_
  have M6 := M5.new rfl 23 #[.int .u8 0, .int .u8 0, .int .u8 0, .int .u8 0, .int .u8 0, .int .u8 0, .int .u8 0, .int .u8 0, .int .u8 0, .int .u8 0, .int .u8 0, .int .u8 0, .int .u8 0, .int .u8 0, .int .u8 0, .int .u8 0]
  clear M5
  try simp only [List.cons_append, List.nil_append, List.set_cons_zero, List.set_cons_succ] at M6
  try simp only [Act.put, List.setIfInBounds_toArray, List.set_cons_zero, List.set_cons_succ]
  refine l_store M6 4 rfl 23 (.tmp 9) _ rfl rfl rfl rfl _ rfl (by kernel_rfl) (by rfl) (by kernel_rfl) _ rfl (fun s7 M7 => ?_)
  clear M6
  try simp only [List.cons_append, List.nil_append, List.set_cons_zero, List.set_cons_succ] at M7
  try simp only [Act.put, List.setIfInBounds_toArray, List.set_cons_zero, List.set_cons_succ]
  refine lv (by kernel_rfl) (some 10) rfl (v := ?_) ?_ ?_
  rotate_left
  · go_simp; try with_reducible rfl
  try simp only [Act.put, List.setIfInBounds_toArray, List.set_cons_zero, List.set_cons_succ]
  refine wpList_nil ?_
  go_upto_region 5 with fail
  refine wp_region_lit ?_
  refine ly M7 (some 30) rfl (yi_row 0 26 (.tmp 3) rfl rfl rfl rfl Try.underlying26 rfl (by kernel_rfl)) ?_
  try simp only [Act.put, List.setIfInBounds_toArray, List.set_cons_zero, List.set_cons_succ]
  refine ly M7 (some 31) rfl (yi_row 2 23 (.tmp 5) rfl rfl rfl rfl Try.underlying23 rfl (by kernel_rfl)) ?_
  try simp only [Act.put, List.setIfInBounds_toArray, List.set_cons_zero, List.set_cons_succ]
  refine l_call rfl (some 32) rfl (c12 _) (by kernel_rfl) (fun s8 hb8 => ?_)
  have M8 := M7.call hb8
  clear hb8 M7
  try simp only [Act.put, List.setIfInBounds_toArray, List.set_cons_zero, List.set_cons_succ]
  refine lv (by kernel_rfl) (some 29) rfl (v := ?_) ?_ ?_
  rotate_left
  · go_simp; try with_reducible rfl
  try simp only [Act.put, List.setIfInBounds_toArray, List.set_cons_zero, List.set_cons_succ]
  refine lv (by kernel_rfl) (some 33) rfl (v := ?_) ?_ ?_
  rotate_left
  · go_simp; try with_reducible rfl
  try simp only [Act.put, List.setIfInBounds_toArray, List.set_cons_zero, List.set_cons_succ]
  refine lv (by kernel_rfl) (some 34) rfl (v := ?_) ?_ ?_
  rotate_left
  · go_simp; try with_reducible rfl
  try simp only [Act.put, List.setIfInBounds_toArray, List.set_cons_zero, List.set_cons_succ]
  refine l_alloc rfl (some 11) rfl #[.int .u8 0, .int .u8 0, .int .u8 0, .int .u8 0] 31 (by kernel_rfl) ?_
  have M9 := M8.new rfl 31 #[.int .u8 0, .int .u8 0, .int .u8 0, .int .u8 0]
  clear M8
  try simp only [List.cons_append, List.nil_append, List.set_cons_zero, List.set_cons_succ] at M9
  try simp only [Act.put, List.setIfInBounds_toArray, List.set_cons_zero, List.set_cons_succ]
  refine l_store M9 5 rfl 31 (.tmp 11) _ rfl rfl rfl rfl _ rfl (by kernel_rfl) (by rfl) (by kernel_rfl) _ rfl (fun s10 M10 => ?_)
  clear M9
  try simp only [List.cons_append, List.nil_append, List.set_cons_zero, List.set_cons_succ] at M10
  try simp only [Act.put, List.setIfInBounds_toArray, List.set_cons_zero, List.set_cons_succ]
  refine lv (by kernel_rfl) (some 12) rfl (v := ?_) ?_ ?_
  rotate_left
  · go_simp; try with_reducible rfl
  try simp only [Act.put, List.setIfInBounds_toArray, List.set_cons_zero, List.set_cons_succ]
  refine wpList_nil ?_
  go_upto_region 6 with fail
  refine wp_region_lit ?_
  refine ly M10 (some 36) rfl (yi_row 0 26 (.tmp 3) rfl rfl rfl rfl Try.underlying26 rfl (by kernel_rfl)) ?_
  try simp only [Act.put, List.setIfInBounds_toArray, List.set_cons_zero, List.set_cons_succ]
  refine ly M10 (some 37) rfl (yi_row 2 23 (.tmp 5) rfl rfl rfl rfl Try.underlying23 rfl (by kernel_rfl)) ?_
  try simp only [Act.put, List.setIfInBounds_toArray, List.set_cons_zero, List.set_cons_succ]
  refine l_call rfl (some 38) rfl (c17 _) (by kernel_rfl) (fun s11 hb11 => ?_)
  have M11 := M10.call hb11
  clear hb11 M10
  try simp only [Act.put, List.setIfInBounds_toArray, List.set_cons_zero, List.set_cons_succ]
  refine lv (by kernel_rfl) (some 35) rfl (v := ?_) ?_ ?_
  rotate_left
  · go_simp; try with_reducible rfl
  try simp only [Act.put, List.setIfInBounds_toArray, List.set_cons_zero, List.set_cons_succ]
  refine lv (by kernel_rfl) (some 39) rfl (v := ?_) ?_ ?_
  rotate_left
  · go_simp; try with_reducible rfl
  try simp only [Act.put, List.setIfInBounds_toArray, List.set_cons_zero, List.set_cons_succ]
  refine lv (by kernel_rfl) (some 40) rfl (v := ?_) ?_ ?_
  rotate_left
  · go_simp; try with_reducible rfl
  try simp only [Act.put, List.setIfInBounds_toArray, List.set_cons_zero, List.set_cons_succ]
  refine l_alloc rfl (some 13) rfl #[.int .u8 0, .int .u8 0, .int .u8 0, .int .u8 0] 31 (by kernel_rfl) ?_
  have M12 := M11.new rfl 31 #[.int .u8 0, .int .u8 0, .int .u8 0, .int .u8 0]
  clear M11
  try simp only [List.cons_append, List.nil_append, List.set_cons_zero, List.set_cons_succ] at M12
  try simp only [Act.put, List.setIfInBounds_toArray, List.set_cons_zero, List.set_cons_succ]
  refine l_store M12 6 rfl 31 (.tmp 13) _ rfl rfl rfl rfl _ rfl (by kernel_rfl) (by rfl) (by kernel_rfl) _ rfl (fun s13 M13 => ?_)
  clear M12
  try simp only [List.cons_append, List.nil_append, List.set_cons_zero, List.set_cons_succ] at M13
  try simp only [Act.put, List.setIfInBounds_toArray, List.set_cons_zero, List.set_cons_succ]
  refine lv (by kernel_rfl) (some 14) rfl (v := ?_) ?_ ?_
  rotate_left
  · go_simp; try with_reducible rfl
  try simp only [Act.put, List.setIfInBounds_toArray, List.set_cons_zero, List.set_cons_succ]
  refine wpList_nil ?_
  go_upto_region 7 with fail
  refine wp_region_held_drew (S := fun w' => Mem w w' _) (by kernel_rfl) M13.drew (fun _ => ?_)
  have M14 := M13.drew
  refine tk (i := 0) rfl (some 41) rfl (by kernel_rfl) (by kernel_rfl) (by kernel_rfl) (fun _ _ _ h => h) (yi_row 0 26 (.tmp 3) rfl rfl rfl rfl Try.underlying26 rfl (by kernel_rfl)) M14 ?_
  try simp only [Act.put, List.setIfInBounds_toArray, List.set_cons_zero, List.set_cons_succ]
  refine tk (i := 2) rfl (some 43) rfl (by kernel_rfl) (by kernel_rfl) (by kernel_rfl) (fun _ _ _ h => h) (yi_row 0 26 (.tmp 3) rfl rfl rfl rfl Try.underlying26 rfl (by kernel_rfl)) M14 ?_
  try simp only [Act.put, List.setIfInBounds_toArray, List.set_cons_zero, List.set_cons_succ]
  refine wpAnyH_ready (rs := [1]) (by kernel_rfl) (by simp) ?_
  refine br_call rfl rfl (some 42) rfl (c15 _) (by kernel_rfl) (fun w' hb => M14.call hb) (fun s15 hb15 => ?_) AllReadyH.nil
  have M15 := M14.call hb15
  clear hb15 M14
  try simp only [Act.put, List.setIfInBounds_toArray, List.set_cons_zero, List.set_cons_succ]
  refine wpAnyH_ready (rs := [3]) (by kernel_rfl) (by simp) ?_
  refine br_call rfl rfl (some 44) rfl (c18 _) (by kernel_rfl) (fun w' hb => M15.call hb) (fun s16 hb16 => ?_) AllReadyH.nil
  have M16 := M15.call hb16
  clear hb16 M15
  try simp only [Act.put, List.setIfInBounds_toArray, List.set_cons_zero, List.set_cons_succ]
  refine tk (i := 4) (v := ?_) rfl (some 45) rfl (by kernel_rfl) (by kernel_rfl) (by kernel_rfl) (fun _ _ _ h => h) (Or.inl ⟨by kernel_rfl, ?_⟩) M16 ?_
  rotate_left
  · intro w hS; go_simp; try with_reducible rfl
  try simp only [Act.put, List.setIfInBounds_toArray, List.set_cons_zero, List.set_cons_succ]
  refine tk (i := 5) (v := ?_) rfl (some 46) rfl (by kernel_rfl) (by kernel_rfl) (by kernel_rfl) (fun _ _ _ h => h) (Or.inl ⟨by kernel_rfl, ?_⟩) M16 ?_
  rotate_left
  · intro w hS; go_simp; try with_reducible rfl
  try simp only [Act.put, List.setIfInBounds_toArray, List.set_cons_zero, List.set_cons_succ]
  refine tk (i := 6) rfl (some 47) rfl (by kernel_rfl) (by kernel_rfl) (by kernel_rfl) (fun _ _ _ h => h) (yi_row 0 26 (.tmp 3) rfl rfl rfl rfl Try.underlying26 rfl (by kernel_rfl)) M16 ?_
  try simp only [Act.put, List.setIfInBounds_toArray, List.set_cons_zero, List.set_cons_succ]
  refine tk (i := 7) rfl (some 48) rfl (by kernel_rfl) (by kernel_rfl) (by kernel_rfl) (fun _ _ _ h => h) (yi_row 2 23 (.tmp 5) rfl rfl rfl rfl Try.underlying23 rfl (by kernel_rfl)) M16 ?_
  try simp only [Act.put, List.setIfInBounds_toArray, List.set_cons_zero, List.set_cons_succ]
  refine tk (i := 9) rfl (some 50) rfl (by kernel_rfl) (by kernel_rfl) (by kernel_rfl) (fun _ _ _ h => h) (yi_row 0 26 (.tmp 3) rfl rfl rfl rfl Try.underlying26 rfl (by kernel_rfl)) M16 ?_
  try simp only [Act.put, List.setIfInBounds_toArray, List.set_cons_zero, List.set_cons_succ]
  refine tk (i := 10) rfl (some 51) rfl (by kernel_rfl) (by kernel_rfl) (by kernel_rfl) (fun _ _ _ h => h) (yi_row 2 23 (.tmp 5) rfl rfl rfl rfl Try.underlying23 rfl (by kernel_rfl)) M16 ?_
  try simp only [Act.put, List.setIfInBounds_toArray, List.set_cons_zero, List.set_cons_succ]
  refine wpAnyH_ready (rs := [8]) (by kernel_rfl) (by simp) ?_
  refine br_call rfl rfl (some 49) rfl (c19 _) (by kernel_rfl) (fun w' hb => M16.call hb) (fun s17 hb17 => ?_) AllReadyH.nil
  have M17 := M16.call hb17
  clear hb17 M16
  try simp only [Act.put, List.setIfInBounds_toArray, List.set_cons_zero, List.set_cons_succ]
  refine wpAnyH_ready (rs := [11]) (by kernel_rfl) (by simp) ?_
  refine br_call rfl rfl (some 52) rfl (c20 _) (by kernel_rfl) (fun w' hb => M17.call hb) (fun s18 hb18 => ?_) AllReadyH.nil
  have M18 := M17.call hb18
  clear hb18 M17
  try simp only [Act.put, List.setIfInBounds_toArray, List.set_cons_zero, List.set_cons_succ]
  refine tk (i := 12) (v := ?_) rfl (some 53) rfl (by kernel_rfl) (by kernel_rfl) (by kernel_rfl) (fun _ _ _ h => h) (Or.inl ⟨by kernel_rfl, ?_⟩) M18 ?_
  rotate_left
  · intro w hS; go_simp; try with_reducible rfl
  try simp only [Act.put, List.setIfInBounds_toArray, List.set_cons_zero, List.set_cons_succ]
  refine tk (i := 13) (v := ?_) rfl (some 54) rfl (by kernel_rfl) (by kernel_rfl) (by kernel_rfl) (fun _ _ _ h => h) (Or.inl ⟨by kernel_rfl, ?_⟩) M18 ?_
  rotate_left
  · intro w hS; go_simp; try with_reducible rfl
  try simp only [Act.put, List.setIfInBounds_toArray, List.set_cons_zero, List.set_cons_succ]
  refine tk (i := 14) (v := ?_) rfl (some 55) rfl (by kernel_rfl) (by kernel_rfl) (by kernel_rfl) (fun _ _ _ h => h) (Or.inl ⟨by kernel_rfl, ?_⟩) M18 ?_
  rotate_left
  · intro w hS; go_simp; try with_reducible rfl
  try simp only [Act.put, List.setIfInBounds_toArray, List.set_cons_zero, List.set_cons_succ]
  refine tk (i := 15) rfl (some 56) rfl (by kernel_rfl) (by kernel_rfl) (by kernel_rfl) (fun _ _ _ h => h) (yi_row 3 23 (.tmp 7) rfl rfl rfl rfl Try.underlying23 rfl (by kernel_rfl)) M18 ?_
  try simp only [Act.put, List.setIfInBounds_toArray, List.set_cons_zero, List.set_cons_succ]
  refine tk (i := 16) rfl (some 57) rfl (by kernel_rfl) (by kernel_rfl) (by kernel_rfl) (fun _ _ _ h => h) (yi_row 4 23 (.tmp 9) rfl rfl rfl rfl Try.underlying23 rfl (by kernel_rfl)) M18 ?_
  try simp only [Act.put, List.setIfInBounds_toArray, List.set_cons_zero, List.set_cons_succ]
  refine tk (i := 17) (v := ?_) rfl (some 58) rfl (by kernel_rfl) (by kernel_rfl) (by kernel_rfl) (fun _ _ _ h => h) (Or.inl ⟨by kernel_rfl, ?_⟩) M18 ?_
  rotate_left
  · intro w hS; go_simp; try with_reducible rfl
  try simp only [Act.put, List.setIfInBounds_toArray, List.set_cons_zero, List.set_cons_succ]
  refine tk (i := 18) (v := ?_) rfl (some 59) rfl (by kernel_rfl) (by kernel_rfl) (by kernel_rfl) (fun _ _ _ h => h) (Or.inl ⟨by kernel_rfl, ?_⟩) M18 ?_
  rotate_left
  · intro w hS; go_simp; try with_reducible rfl
  try simp only [Act.put, List.setIfInBounds_toArray, List.set_cons_zero, List.set_cons_succ]
  refine tk (i := 19) (v := ?_) rfl (some 60) rfl (by kernel_rfl) (by kernel_rfl) (by kernel_rfl) (fun _ _ _ h => h) (Or.inl ⟨by kernel_rfl, ?_⟩) M18 ?_
  rotate_left
  · intro w hS; go_simp; try with_reducible rfl
  try simp only [Act.put, List.setIfInBounds_toArray, List.set_cons_zero, List.set_cons_succ]
  refine tk (i := 20) (v := ?_) rfl (some 61) rfl (by kernel_rfl) (by kernel_rfl) (by kernel_rfl) (fun _ _ _ h => h) (Or.inl ⟨by kernel_rfl, ?_⟩) M18 ?_
  rotate_left
  · intro w hS; go_simp; try with_reducible rfl
  try simp only [Act.put, List.setIfInBounds_toArray, List.set_cons_zero, List.set_cons_succ]
  refine tk (i := 21) (v := ?_) rfl (some 62) rfl (by kernel_rfl) (by kernel_rfl) (by kernel_rfl) (fun _ _ _ h => h) (Or.inl ⟨by kernel_rfl, ?_⟩) M18 ?_
  rotate_left
  · intro w hS; go_simp; try with_reducible rfl
  try simp only [Act.put, List.setIfInBounds_toArray, List.set_cons_zero, List.set_cons_succ]
  refine tk (i := 22) (v := ?_) rfl (some 63) rfl (by kernel_rfl) (by kernel_rfl) (by kernel_rfl) (fun _ _ _ h => h) (Or.inl ⟨by kernel_rfl, ?_⟩) M18 ?_
  rotate_left
  · intro w hS; go_simp; try with_reducible rfl
  try simp only [Act.put, List.setIfInBounds_toArray, List.set_cons_zero, List.set_cons_succ]
  refine tk (i := 23) (v := ?_) rfl (some 64) rfl (by kernel_rfl) (by kernel_rfl) (by kernel_rfl) (fun _ _ _ h => h) (Or.inl ⟨by kernel_rfl, ?_⟩) M18 ?_
  rotate_left
  · intro w hS; go_simp; try with_reducible rfl
  try simp only [Act.put, List.setIfInBounds_toArray, List.set_cons_zero, List.set_cons_succ]
  refine tk (i := 24) (v := ?_) rfl (some 65) rfl (by kernel_rfl) (by kernel_rfl) (by kernel_rfl) (fun _ _ _ h => h) (Or.inl ⟨by kernel_rfl, ?_⟩) M18 ?_
  rotate_left
  · intro w hS; go_simp; try with_reducible rfl
  try simp only [Act.put, List.setIfInBounds_toArray, List.set_cons_zero, List.set_cons_succ]
  refine tk (i := 25) rfl (some 66) rfl (by kernel_rfl) (by kernel_rfl) (by kernel_rfl) (fun _ _ _ h => h) (yi_row 5 31 (.tmp 11) rfl rfl rfl rfl Try.underlying31 rfl (by kernel_rfl)) M18 ?_
  try simp only [Act.put, List.setIfInBounds_toArray, List.set_cons_zero, List.set_cons_succ]
  refine tk (i := 26) rfl (some 67) rfl (by kernel_rfl) (by kernel_rfl) (by kernel_rfl) (fun _ _ _ h => h) (yi_row 6 31 (.tmp 13) rfl rfl rfl rfl Try.underlying31 rfl (by kernel_rfl)) M18 ?_
  try simp only [Act.put, List.setIfInBounds_toArray, List.set_cons_zero, List.set_cons_succ]
  refine tk (i := 27) (v := ?_) rfl (some 68) rfl (by kernel_rfl) (by kernel_rfl) (by kernel_rfl) (fun _ _ _ h => h) (Or.inl ⟨by kernel_rfl, ?_⟩) M18 ?_
  rotate_left
  · intro w hS; go_simp; try with_reducible rfl
  try simp only [Act.put, List.setIfInBounds_toArray, List.set_cons_zero, List.set_cons_succ]
  refine tk (i := 28) (v := ?_) rfl (some 69) rfl (by kernel_rfl) (by kernel_rfl) (by kernel_rfl) (fun _ _ _ h => h) (Or.inl ⟨by kernel_rfl, ?_⟩) M18 ?_
  rotate_left
  · intro w hS; go_simp; try with_reducible rfl
  try simp only [Act.put, List.setIfInBounds_toArray, List.set_cons_zero, List.set_cons_succ]
  refine tk (i := 29) (v := ?_) rfl (some 70) rfl (by kernel_rfl) (by kernel_rfl) (by kernel_rfl) (fun _ _ _ h => h) (Or.inl ⟨by kernel_rfl, ?_⟩) M18 ?_
  rotate_left
  · intro w hS; go_simp; try with_reducible rfl
  try simp only [Act.put, List.setIfInBounds_toArray, List.set_cons_zero, List.set_cons_succ]
  refine tk (i := 30) (v := ?_) rfl (some 71) rfl (by kernel_rfl) (by kernel_rfl) (by kernel_rfl) (fun _ _ _ h => h) (Or.inl ⟨by kernel_rfl, ?_⟩) M18 ?_
  rotate_left
  · intro w hS; go_simp; try with_reducible rfl
  try simp only [Act.put, List.setIfInBounds_toArray, List.set_cons_zero, List.set_cons_succ]
  refine tk (i := 31) (v := ?_) rfl (some 72) rfl (by kernel_rfl) (by kernel_rfl) (by kernel_rfl) (fun _ _ _ h => h) (Or.inl ⟨by kernel_rfl, ?_⟩) M18 ?_
  rotate_left
  · intro w hS; go_simp; try with_reducible rfl
  try simp only [Act.put, List.setIfInBounds_toArray, List.set_cons_zero, List.set_cons_succ]
  refine tk (i := 32) (v := ?_) rfl (some 73) rfl (by kernel_rfl) (by kernel_rfl) (by kernel_rfl) (fun _ _ _ h => h) (Or.inl ⟨by kernel_rfl, ?_⟩) M18 ?_
  rotate_left
  · intro w hS; go_simp; try with_reducible rfl
  try simp only [Act.put, List.setIfInBounds_toArray, List.set_cons_zero, List.set_cons_succ]
  refine tk (i := 33) (v := ?_) rfl (some 74) rfl (by kernel_rfl) (by kernel_rfl) (by kernel_rfl) (fun _ _ _ h => h) (Or.inl ⟨by kernel_rfl, ?_⟩) M18 ?_
  rotate_left
  · intro w hS; go_simp; try with_reducible rfl
  try simp only [Act.put, List.setIfInBounds_toArray, List.set_cons_zero, List.set_cons_succ]
  refine tk (i := 34) (v := ?_) rfl (some 6) rfl (by kernel_rfl) (by kernel_rfl) (by kernel_rfl) (fun _ _ _ h => h) (Or.inl ⟨by kernel_rfl, ?_⟩) M18 ?_
  rotate_left
  · intro w hS; go_simp; try with_reducible rfl
  try simp only [Act.put, List.setIfInBounds_toArray, List.set_cons_zero, List.set_cons_succ]
  refine wpAnyH_done (by kernel_rfl) ?_ _
  go_wp2_with fail
  go_ret
  exact ⟨rfl, M18.below⟩
end Go.Proofs.Ytafonnelennlhaa
