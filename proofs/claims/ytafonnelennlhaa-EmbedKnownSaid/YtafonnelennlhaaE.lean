/-
  Contract of embed.Extract. Conditions stand in each statement.
-/
import Derived.Test.YtafonnelennlhaaB
import Derived.Test.YtafonnelennlhaaL
namespace Go.Proofs.Ytafonnelennlhaa
open Go.RowKit

set_option maxHeartbeats 4000000 in
theorem extract_f (P X : Nat → Int) (n : Int) (w : World) (bp : Bytes 16 P) (bx : Bytes 16 X) (h : ¬ InsideP P X n) : Calls Try.prog 12 #[net P n, .agg (a16 X)] w fun e w' => e = .returned (.tuple #[.agg (a4 fun _ => 0), .bool false]) ∧ Below w.heap.size w w' := by
  have c19 := fun w => inside_any P X n w bp bx false (by simp [h])
  clear h bp bx
  go_enter Try.func12, Try.ntmps12
  go_wp2_with (first
    | (go_at_call 19; (with_reducible refine (c19 _).mono ?_); rintro e w1 ⟨rfl, hb1⟩; have HB : Below w.heap.size w w1 := ((((Below.refl _ _).alloc (Nat.le_refl _) _).alloc (by simp) _).alloc (by simp; omega) _).trans (hb1.mono (by simp; omega)); have B0 := (((Blk.new w 26 _ rfl).alloc _).alloc _).below hb1; have B1 := ((Blk.new _ 23 (a16 X) (by simp : _ = w.heap.size + 1)).alloc _).below hb1; have B2 := (Blk.new _ 31 _ (by simp : _ = w.heap.size + 1 + 1)).below hb1; have s2 := B2.lt; have q8 : w1.cell? ⟨w.heap.size + 1, 8, none⟩ = some (.int .u8 (X 8)) := B1.cell rfl; clear hb1 c19)
    | (refine ld_part (((Blk.new w 26 _ rfl).alloc _).alloc _) rfl 26 (.tmp 2) rfl 0 rfl #[.int .u8 (P 0), .int .u8 (P 1), .int .u8 (P 2), .int .u8 (P 3), .int .u8 (P 4), .int .u8 (P 5), .int .u8 (P 6), .int .u8 (P 7), .int .u8 (P 8), .int .u8 (P 9), .int .u8 (P 10), .int .u8 (P 11), .int .u8 (P 12), .int .u8 (P 13), .int .u8 (P 14), .int .u8 (P 15), .int .i64 n] _ Try.underlying26 rfl (by kernel_rfl) (by kernel_rfl) ?_)
    | (refine ld_part ((Blk.new (w.alloc _) 23 _ rfl).alloc _) rfl 23 (.tmp 3) rfl 0 rfl (a16 X) _ Try.underlying23 rfl (by kernel_rfl) (by kernel_rfl) ?_)
    | (refine ld_part B2 rfl 31 (.tmp 4) rfl 0 rfl (a4 fun _ => 0) _ Try.underlying31 rfl (by kernel_rfl) (by kernel_rfl) ?_)
    | (refine st_row B2 rfl 31 (.tmp 4) _ rfl rfl _ rfl (by kernel_rfl) rfl (by kernel_rfl) ?_; clear B2; intro w9 B2 O; have HB := oth_below HB O (by omega)))
  refine bodyPost_ret (v := .tuple #[.agg (a4 fun _ => 0), .bool false]) (results_cell_tmp rfl B2 _ rfl _ rfl Try.underlying31 rfl (by kernel_rfl)) rfl ⟨rfl, HB⟩
set_option maxHeartbeats 4000000 in
theorem extract_8 (P X : Nat → Int) (n : Int) (w : World) (bp : Bytes 16 P) (bx : Bytes 16 X) (h : InsideP P X n) (h8 : X 8 ≠ 0) : Calls Try.prog 12 #[net P n, .agg (a16 X)] w fun e w' => e = .returned (.tuple #[.agg (a4 fun _ => 0), .bool false]) ∧ Below w.heap.size w w' := by
  have c19 := fun w => inside_any P X n w bp bx true (by simp [h])
  have t8 : (X 8 != 0) = true := by simp [h8]
  clear h bp bx h8
  go_enter Try.func12, Try.ntmps12
  go_wp2_with (first
    | (go_at_call 19; (with_reducible refine (c19 _).mono ?_); rintro e w1 ⟨rfl, hb1⟩; have HB : Below w.heap.size w w1 := ((((Below.refl _ _).alloc (Nat.le_refl _) _).alloc (by simp) _).alloc (by simp; omega) _).trans (hb1.mono (by simp; omega)); have B0 := (((Blk.new w 26 _ rfl).alloc _).alloc _).below hb1; have B1 := ((Blk.new _ 23 (a16 X) (by simp : _ = w.heap.size + 1)).alloc _).below hb1; have B2 := (Blk.new _ 31 _ (by simp : _ = w.heap.size + 1 + 1)).below hb1; have s2 := B2.lt; have q8 : w1.cell? ⟨w.heap.size + 1, 8, none⟩ = some (.int .u8 (X 8)) := B1.cell rfl; clear hb1 c19)
    | (refine ld_part (((Blk.new w 26 _ rfl).alloc _).alloc _) rfl 26 (.tmp 2) rfl 0 rfl #[.int .u8 (P 0), .int .u8 (P 1), .int .u8 (P 2), .int .u8 (P 3), .int .u8 (P 4), .int .u8 (P 5), .int .u8 (P 6), .int .u8 (P 7), .int .u8 (P 8), .int .u8 (P 9), .int .u8 (P 10), .int .u8 (P 11), .int .u8 (P 12), .int .u8 (P 13), .int .u8 (P 14), .int .u8 (P 15), .int .i64 n] _ Try.underlying26 rfl (by kernel_rfl) (by kernel_rfl) ?_)
    | (refine ld_part ((Blk.new (w.alloc _) 23 _ rfl).alloc _) rfl 23 (.tmp 3) rfl 0 rfl (a16 X) _ Try.underlying23 rfl (by kernel_rfl) (by kernel_rfl) ?_)
    | (refine ld_part B2 rfl 31 (.tmp 4) rfl 0 rfl (a4 fun _ => 0) _ Try.underlying31 rfl (by kernel_rfl) (by kernel_rfl) ?_)
    | (refine st_row B2 rfl 31 (.tmp 4) _ rfl rfl _ rfl (by kernel_rfl) rfl (by kernel_rfl) ?_; clear B2; intro w9 B2 O; have HB := oth_below HB O (by omega)))
  refine bodyPost_ret (v := .tuple #[.agg (a4 fun _ => 0), .bool false]) (results_cell_tmp rfl B2 _ rfl _ rfl Try.underlying31 rfl (by kernel_rfl)) rfl ⟨rfl, HB⟩
set_option maxHeartbeats 4000000 in
theorem extract_32 (P X : Nat → Int) (w : World) (bp : Bytes 16 P) (bx : Bytes 16 X) (h : InsideP P X 32) (h8 : X 8 = 0) : Calls Try.prog 12 #[net P 32, .agg (a16 X)] w fun e w' => e = .returned (.tuple #[.agg #[.int .u8 (X 4), .int .u8 (X 5), .int .u8 (X 6), .int .u8 (X 7)], .bool true]) ∧ Below w.heap.size w w' := by
  have c19 := fun w => inside_any P X 32 w bp bx true (by simp [h])
  have t8 : (X 8 != 0) = false := by simp [h8]
  have c21 := fun w => places_32 P w
  clear h bp bx h8
  have i0 : ∀ w, (Instr.index 45 (.agg #[.int .i64 4, .int .i64 5, .int .i64 6, .int .i64 7]) (.int .i64 0)).run Try.prog w = .ok (.int .i64 4) w := fun _ => by kernel_rfl
  have i1 : ∀ w, (Instr.index 45 (.agg #[.int .i64 4, .int .i64 5, .int .i64 6, .int .i64 7]) (.int .i64 1)).run Try.prog w = .ok (.int .i64 5) w := fun _ => by kernel_rfl
  have i2 : ∀ w, (Instr.index 45 (.agg #[.int .i64 4, .int .i64 5, .int .i64 6, .int .i64 7]) (.int .i64 2)).run Try.prog w = .ok (.int .i64 6) w := fun _ => by kernel_rfl
  have i3 : ∀ w, (Instr.index 45 (.agg #[.int .i64 4, .int .i64 5, .int .i64 6, .int .i64 7]) (.int .i64 3)).run Try.prog w = .ok (.int .i64 7) w := fun _ => by kernel_rfl
  go_enter Try.func12, Try.ntmps12
  go_wp2_with (first
    | (go_at_call 19; (with_reducible refine (c19 _).mono ?_); rintro e w1 ⟨rfl, hb1⟩; have HB : Below w.heap.size w w1 := ((((Below.refl _ _).alloc (Nat.le_refl _) _).alloc (by simp) _).alloc (by simp; omega) _).trans (hb1.mono (by simp; omega)); have B0 := (((Blk.new w 26 _ rfl).alloc _).alloc _).below hb1; have B1 := ((Blk.new _ 23 (a16 X) (by simp : _ = w.heap.size + 1)).alloc _).below hb1; have B2 := (Blk.new _ 31 _ (by simp : _ = w.heap.size + 1 + 1)).below hb1; have s2 := B2.lt; have q8 : w1.cell? ⟨w.heap.size + 1, 8, none⟩ = some (.int .u8 (X 8)) := B1.cell rfl; clear hb1 c19)
    | (refine ld_part (((Blk.new w 26 _ rfl).alloc _).alloc _) rfl 26 (.tmp 2) rfl 0 rfl #[.int .u8 (P 0), .int .u8 (P 1), .int .u8 (P 2), .int .u8 (P 3), .int .u8 (P 4), .int .u8 (P 5), .int .u8 (P 6), .int .u8 (P 7), .int .u8 (P 8), .int .u8 (P 9), .int .u8 (P 10), .int .u8 (P 11), .int .u8 (P 12), .int .u8 (P 13), .int .u8 (P 14), .int .u8 (P 15), .int .i64 32] _ Try.underlying26 rfl (by kernel_rfl) (by kernel_rfl) ?_)
    | (refine ld_part ((Blk.new (w.alloc _) 23 _ rfl).alloc _) rfl 23 (.tmp 3) rfl 0 rfl (a16 X) _ Try.underlying23 rfl (by kernel_rfl) (by kernel_rfl) ?_)
    | (refine ld_part B0 rfl 26 (.tmp 2) rfl 0 rfl #[.int .u8 (P 0), .int .u8 (P 1), .int .u8 (P 2), .int .u8 (P 3), .int .u8 (P 4), .int .u8 (P 5), .int .u8 (P 6), .int .u8 (P 7), .int .u8 (P 8), .int .u8 (P 9), .int .u8 (P 10), .int .u8 (P 11), .int .u8 (P 12), .int .u8 (P 13), .int .u8 (P 14), .int .u8 (P 15), .int .i64 32] _ Try.underlying26 rfl (by kernel_rfl) (by kernel_rfl) ?_)
    | (go_at_call 21; (with_reducible refine (c21 _).mono ?_); rintro e w4 ⟨rfl, hb2⟩; have B1 := B1.below hb2; have B2 := B2.below hb2; have HB := HB.trans (hb2.mono (by omega)); clear q8 B0 hb2)
    )
  refine wp_loop_rounds 5 ?_
  rw [rounds_succ]
  go_wp2_with (first
    | (refine ld_cell B1 rfl 5 _ rfl _ rfl _ .u8 Try.underlying5 rfl ?_)
    | (refine st_cell B2 rfl 5 _ _ rfl _ rfl _ rfl (by kernel_rfl) (by kernel_rfl) rfl rfl ?_; intro w5 B2' O; have B1 := B1.oth O (by omega); have HB := oth_below HB O (by omega); clear O B2; have B2 := B2'; clear B2')
    | (refine ld_part B2 rfl 31 (.tmp 4) rfl 0 rfl #[.int .u8 (X 4), .int .u8 (X 5), .int .u8 (X 6), .int .u8 (X 7)] _ Try.underlying31 rfl (by kernel_rfl) (by kernel_rfl) ?_)
    | (refine st_row B2 rfl 31 (.tmp 4) _ rfl rfl _ rfl (by kernel_rfl) (by kernel_rfl) (by kernel_rfl) ?_; clear B2; intro w9 B2 O; have HB := oth_below HB O (by omega)))
  rw [rounds_succ]
  go_wp2_with (first
    | (refine ld_cell B1 rfl 5 _ rfl _ rfl _ .u8 Try.underlying5 rfl ?_)
    | (refine st_cell B2 rfl 5 _ _ rfl _ rfl _ rfl (by kernel_rfl) (by kernel_rfl) rfl rfl ?_; intro w6 B2' O; have B1 := B1.oth O (by omega); have HB := oth_below HB O (by omega); clear O B2; have B2 := B2'; clear B2')
    | (refine ld_part B2 rfl 31 (.tmp 4) rfl 0 rfl #[.int .u8 (X 4), .int .u8 (X 5), .int .u8 (X 6), .int .u8 (X 7)] _ Try.underlying31 rfl (by kernel_rfl) (by kernel_rfl) ?_)
    | (refine st_row B2 rfl 31 (.tmp 4) _ rfl rfl _ rfl (by kernel_rfl) (by kernel_rfl) (by kernel_rfl) ?_; clear B2; intro w9 B2 O; have HB := oth_below HB O (by omega)))
  rw [rounds_succ]
  go_wp2_with (first
    | (refine ld_cell B1 rfl 5 _ rfl _ rfl _ .u8 Try.underlying5 rfl ?_)
    | (refine st_cell B2 rfl 5 _ _ rfl _ rfl _ rfl (by kernel_rfl) (by kernel_rfl) rfl rfl ?_; intro w7 B2' O; have B1 := B1.oth O (by omega); have HB := oth_below HB O (by omega); clear O B2; have B2 := B2'; clear B2')
    | (refine ld_part B2 rfl 31 (.tmp 4) rfl 0 rfl #[.int .u8 (X 4), .int .u8 (X 5), .int .u8 (X 6), .int .u8 (X 7)] _ Try.underlying31 rfl (by kernel_rfl) (by kernel_rfl) ?_)
    | (refine st_row B2 rfl 31 (.tmp 4) _ rfl rfl _ rfl (by kernel_rfl) (by kernel_rfl) (by kernel_rfl) ?_; clear B2; intro w9 B2 O; have HB := oth_below HB O (by omega)))
  rw [rounds_succ]
  go_wp2_with (first
    | (refine ld_cell B1 rfl 5 _ rfl _ rfl _ .u8 Try.underlying5 rfl ?_)
    | (refine st_cell B2 rfl 5 _ _ rfl _ rfl _ rfl (by kernel_rfl) (by kernel_rfl) rfl rfl ?_; intro w8 B2' O; have B1 := B1.oth O (by omega); have HB := oth_below HB O (by omega); clear O B2; have B2 := B2'; clear B2')
    | (refine ld_part B2 rfl 31 (.tmp 4) rfl 0 rfl #[.int .u8 (X 4), .int .u8 (X 5), .int .u8 (X 6), .int .u8 (X 7)] _ Try.underlying31 rfl (by kernel_rfl) (by kernel_rfl) ?_)
    | (refine st_row B2 rfl 31 (.tmp 4) _ rfl rfl _ rfl (by kernel_rfl) (by kernel_rfl) (by kernel_rfl) ?_; clear B2; intro w9 B2 O; have HB := oth_below HB O (by omega)))
  rw [rounds_succ]
  go_wp2_with (first
    | (refine ld_cell B1 rfl 5 _ rfl _ rfl _ .u8 Try.underlying5 rfl ?_)
    | (refine st_cell B2 rfl 5 _ _ rfl _ rfl _ rfl (by kernel_rfl) (by kernel_rfl) rfl rfl ?_; intro w9 B2' O; have B1 := B1.oth O (by omega); have HB := oth_below HB O (by omega); clear O B2; have B2 := B2'; clear B2')
    | (refine ld_part B2 rfl 31 (.tmp 4) rfl 0 rfl #[.int .u8 (X 4), .int .u8 (X 5), .int .u8 (X 6), .int .u8 (X 7)] _ Try.underlying31 rfl (by kernel_rfl) (by kernel_rfl) ?_)
    | (refine st_row B2 rfl 31 (.tmp 4) _ rfl rfl _ rfl (by kernel_rfl) (by kernel_rfl) (by kernel_rfl) ?_; clear B2; intro w9 B2 O; have HB := oth_below HB O (by omega)))
  refine bodyPost_ret (v := .tuple #[.agg #[.int .u8 (X 4), .int .u8 (X 5), .int .u8 (X 6), .int .u8 (X 7)], .bool true]) (results_cell_tmp rfl B2 _ rfl _ rfl Try.underlying31 rfl (by kernel_rfl)) rfl ⟨rfl, HB⟩
set_option maxHeartbeats 4000000 in
theorem extract_40 (P X : Nat → Int) (w : World) (bp : Bytes 16 P) (bx : Bytes 16 X) (h : InsideP P X 40) (h8 : X 8 = 0) : Calls Try.prog 12 #[net P 40, .agg (a16 X)] w fun e w' => e = .returned (.tuple #[.agg #[.int .u8 (X 5), .int .u8 (X 6), .int .u8 (X 7), .int .u8 (X 9)], .bool true]) ∧ Below w.heap.size w w' := by
  have c19 := fun w => inside_any P X 40 w bp bx true (by simp [h])
  have t8 : (X 8 != 0) = false := by simp [h8]
  have c21 := fun w => places_40 P w
  clear h bp bx h8
  have i0 : ∀ w, (Instr.index 45 (.agg #[.int .i64 5, .int .i64 6, .int .i64 7, .int .i64 9]) (.int .i64 0)).run Try.prog w = .ok (.int .i64 5) w := fun _ => by kernel_rfl
  have i1 : ∀ w, (Instr.index 45 (.agg #[.int .i64 5, .int .i64 6, .int .i64 7, .int .i64 9]) (.int .i64 1)).run Try.prog w = .ok (.int .i64 6) w := fun _ => by kernel_rfl
  have i2 : ∀ w, (Instr.index 45 (.agg #[.int .i64 5, .int .i64 6, .int .i64 7, .int .i64 9]) (.int .i64 2)).run Try.prog w = .ok (.int .i64 7) w := fun _ => by kernel_rfl
  have i3 : ∀ w, (Instr.index 45 (.agg #[.int .i64 5, .int .i64 6, .int .i64 7, .int .i64 9]) (.int .i64 3)).run Try.prog w = .ok (.int .i64 9) w := fun _ => by kernel_rfl
  go_enter Try.func12, Try.ntmps12
  go_wp2_with (first
    | (go_at_call 19; (with_reducible refine (c19 _).mono ?_); rintro e w1 ⟨rfl, hb1⟩; have HB : Below w.heap.size w w1 := ((((Below.refl _ _).alloc (Nat.le_refl _) _).alloc (by simp) _).alloc (by simp; omega) _).trans (hb1.mono (by simp; omega)); have B0 := (((Blk.new w 26 _ rfl).alloc _).alloc _).below hb1; have B1 := ((Blk.new _ 23 (a16 X) (by simp : _ = w.heap.size + 1)).alloc _).below hb1; have B2 := (Blk.new _ 31 _ (by simp : _ = w.heap.size + 1 + 1)).below hb1; have s2 := B2.lt; have q8 : w1.cell? ⟨w.heap.size + 1, 8, none⟩ = some (.int .u8 (X 8)) := B1.cell rfl; clear hb1 c19)
    | (refine ld_part (((Blk.new w 26 _ rfl).alloc _).alloc _) rfl 26 (.tmp 2) rfl 0 rfl #[.int .u8 (P 0), .int .u8 (P 1), .int .u8 (P 2), .int .u8 (P 3), .int .u8 (P 4), .int .u8 (P 5), .int .u8 (P 6), .int .u8 (P 7), .int .u8 (P 8), .int .u8 (P 9), .int .u8 (P 10), .int .u8 (P 11), .int .u8 (P 12), .int .u8 (P 13), .int .u8 (P 14), .int .u8 (P 15), .int .i64 40] _ Try.underlying26 rfl (by kernel_rfl) (by kernel_rfl) ?_)
    | (refine ld_part ((Blk.new (w.alloc _) 23 _ rfl).alloc _) rfl 23 (.tmp 3) rfl 0 rfl (a16 X) _ Try.underlying23 rfl (by kernel_rfl) (by kernel_rfl) ?_)
    | (refine ld_part B0 rfl 26 (.tmp 2) rfl 0 rfl #[.int .u8 (P 0), .int .u8 (P 1), .int .u8 (P 2), .int .u8 (P 3), .int .u8 (P 4), .int .u8 (P 5), .int .u8 (P 6), .int .u8 (P 7), .int .u8 (P 8), .int .u8 (P 9), .int .u8 (P 10), .int .u8 (P 11), .int .u8 (P 12), .int .u8 (P 13), .int .u8 (P 14), .int .u8 (P 15), .int .i64 40] _ Try.underlying26 rfl (by kernel_rfl) (by kernel_rfl) ?_)
    | (go_at_call 21; (with_reducible refine (c21 _).mono ?_); rintro e w4 ⟨rfl, hb2⟩; have B1 := B1.below hb2; have B2 := B2.below hb2; have HB := HB.trans (hb2.mono (by omega)); clear q8 B0 hb2)
    )
  refine wp_loop_rounds 5 ?_
  rw [rounds_succ]
  go_wp2_with (first
    | (refine ld_cell B1 rfl 5 _ rfl _ rfl _ .u8 Try.underlying5 rfl ?_)
    | (refine st_cell B2 rfl 5 _ _ rfl _ rfl _ rfl (by kernel_rfl) (by kernel_rfl) rfl rfl ?_; intro w5 B2' O; have B1 := B1.oth O (by omega); have HB := oth_below HB O (by omega); clear O B2; have B2 := B2'; clear B2')
    | (refine ld_part B2 rfl 31 (.tmp 4) rfl 0 rfl #[.int .u8 (X 5), .int .u8 (X 6), .int .u8 (X 7), .int .u8 (X 9)] _ Try.underlying31 rfl (by kernel_rfl) (by kernel_rfl) ?_)
    | (refine st_row B2 rfl 31 (.tmp 4) _ rfl rfl _ rfl (by kernel_rfl) (by kernel_rfl) (by kernel_rfl) ?_; clear B2; intro w9 B2 O; have HB := oth_below HB O (by omega)))
  rw [rounds_succ]
  go_wp2_with (first
    | (refine ld_cell B1 rfl 5 _ rfl _ rfl _ .u8 Try.underlying5 rfl ?_)
    | (refine st_cell B2 rfl 5 _ _ rfl _ rfl _ rfl (by kernel_rfl) (by kernel_rfl) rfl rfl ?_; intro w6 B2' O; have B1 := B1.oth O (by omega); have HB := oth_below HB O (by omega); clear O B2; have B2 := B2'; clear B2')
    | (refine ld_part B2 rfl 31 (.tmp 4) rfl 0 rfl #[.int .u8 (X 5), .int .u8 (X 6), .int .u8 (X 7), .int .u8 (X 9)] _ Try.underlying31 rfl (by kernel_rfl) (by kernel_rfl) ?_)
    | (refine st_row B2 rfl 31 (.tmp 4) _ rfl rfl _ rfl (by kernel_rfl) (by kernel_rfl) (by kernel_rfl) ?_; clear B2; intro w9 B2 O; have HB := oth_below HB O (by omega)))
  rw [rounds_succ]
  go_wp2_with (first
    | (refine ld_cell B1 rfl 5 _ rfl _ rfl _ .u8 Try.underlying5 rfl ?_)
    | (refine st_cell B2 rfl 5 _ _ rfl _ rfl _ rfl (by kernel_rfl) (by kernel_rfl) rfl rfl ?_; intro w7 B2' O; have B1 := B1.oth O (by omega); have HB := oth_below HB O (by omega); clear O B2; have B2 := B2'; clear B2')
    | (refine ld_part B2 rfl 31 (.tmp 4) rfl 0 rfl #[.int .u8 (X 5), .int .u8 (X 6), .int .u8 (X 7), .int .u8 (X 9)] _ Try.underlying31 rfl (by kernel_rfl) (by kernel_rfl) ?_)
    | (refine st_row B2 rfl 31 (.tmp 4) _ rfl rfl _ rfl (by kernel_rfl) (by kernel_rfl) (by kernel_rfl) ?_; clear B2; intro w9 B2 O; have HB := oth_below HB O (by omega)))
  rw [rounds_succ]
  go_wp2_with (first
    | (refine ld_cell B1 rfl 5 _ rfl _ rfl _ .u8 Try.underlying5 rfl ?_)
    | (refine st_cell B2 rfl 5 _ _ rfl _ rfl _ rfl (by kernel_rfl) (by kernel_rfl) rfl rfl ?_; intro w8 B2' O; have B1 := B1.oth O (by omega); have HB := oth_below HB O (by omega); clear O B2; have B2 := B2'; clear B2')
    | (refine ld_part B2 rfl 31 (.tmp 4) rfl 0 rfl #[.int .u8 (X 5), .int .u8 (X 6), .int .u8 (X 7), .int .u8 (X 9)] _ Try.underlying31 rfl (by kernel_rfl) (by kernel_rfl) ?_)
    | (refine st_row B2 rfl 31 (.tmp 4) _ rfl rfl _ rfl (by kernel_rfl) (by kernel_rfl) (by kernel_rfl) ?_; clear B2; intro w9 B2 O; have HB := oth_below HB O (by omega)))
  rw [rounds_succ]
  go_wp2_with (first
    | (refine ld_cell B1 rfl 5 _ rfl _ rfl _ .u8 Try.underlying5 rfl ?_)
    | (refine st_cell B2 rfl 5 _ _ rfl _ rfl _ rfl (by kernel_rfl) (by kernel_rfl) rfl rfl ?_; intro w9 B2' O; have B1 := B1.oth O (by omega); have HB := oth_below HB O (by omega); clear O B2; have B2 := B2'; clear B2')
    | (refine ld_part B2 rfl 31 (.tmp 4) rfl 0 rfl #[.int .u8 (X 5), .int .u8 (X 6), .int .u8 (X 7), .int .u8 (X 9)] _ Try.underlying31 rfl (by kernel_rfl) (by kernel_rfl) ?_)
    | (refine st_row B2 rfl 31 (.tmp 4) _ rfl rfl _ rfl (by kernel_rfl) (by kernel_rfl) (by kernel_rfl) ?_; clear B2; intro w9 B2 O; have HB := oth_below HB O (by omega)))
  refine bodyPost_ret (v := .tuple #[.agg #[.int .u8 (X 5), .int .u8 (X 6), .int .u8 (X 7), .int .u8 (X 9)], .bool true]) (results_cell_tmp rfl B2 _ rfl _ rfl Try.underlying31 rfl (by kernel_rfl)) rfl ⟨rfl, HB⟩
set_option maxHeartbeats 4000000 in
theorem extract_48 (P X : Nat → Int) (w : World) (bp : Bytes 16 P) (bx : Bytes 16 X) (h : InsideP P X 48) (h8 : X 8 = 0) : Calls Try.prog 12 #[net P 48, .agg (a16 X)] w fun e w' => e = .returned (.tuple #[.agg #[.int .u8 (X 6), .int .u8 (X 7), .int .u8 (X 9), .int .u8 (X 10)], .bool true]) ∧ Below w.heap.size w w' := by
  have c19 := fun w => inside_any P X 48 w bp bx true (by simp [h])
  have t8 : (X 8 != 0) = false := by simp [h8]
  have c21 := fun w => places_48 P w
  clear h bp bx h8
  have i0 : ∀ w, (Instr.index 45 (.agg #[.int .i64 6, .int .i64 7, .int .i64 9, .int .i64 10]) (.int .i64 0)).run Try.prog w = .ok (.int .i64 6) w := fun _ => by kernel_rfl
  have i1 : ∀ w, (Instr.index 45 (.agg #[.int .i64 6, .int .i64 7, .int .i64 9, .int .i64 10]) (.int .i64 1)).run Try.prog w = .ok (.int .i64 7) w := fun _ => by kernel_rfl
  have i2 : ∀ w, (Instr.index 45 (.agg #[.int .i64 6, .int .i64 7, .int .i64 9, .int .i64 10]) (.int .i64 2)).run Try.prog w = .ok (.int .i64 9) w := fun _ => by kernel_rfl
  have i3 : ∀ w, (Instr.index 45 (.agg #[.int .i64 6, .int .i64 7, .int .i64 9, .int .i64 10]) (.int .i64 3)).run Try.prog w = .ok (.int .i64 10) w := fun _ => by kernel_rfl
  go_enter Try.func12, Try.ntmps12
  go_wp2_with (first
    | (go_at_call 19; (with_reducible refine (c19 _).mono ?_); rintro e w1 ⟨rfl, hb1⟩; have HB : Below w.heap.size w w1 := ((((Below.refl _ _).alloc (Nat.le_refl _) _).alloc (by simp) _).alloc (by simp; omega) _).trans (hb1.mono (by simp; omega)); have B0 := (((Blk.new w 26 _ rfl).alloc _).alloc _).below hb1; have B1 := ((Blk.new _ 23 (a16 X) (by simp : _ = w.heap.size + 1)).alloc _).below hb1; have B2 := (Blk.new _ 31 _ (by simp : _ = w.heap.size + 1 + 1)).below hb1; have s2 := B2.lt; have q8 : w1.cell? ⟨w.heap.size + 1, 8, none⟩ = some (.int .u8 (X 8)) := B1.cell rfl; clear hb1 c19)
    | (refine ld_part (((Blk.new w 26 _ rfl).alloc _).alloc _) rfl 26 (.tmp 2) rfl 0 rfl #[.int .u8 (P 0), .int .u8 (P 1), .int .u8 (P 2), .int .u8 (P 3), .int .u8 (P 4), .int .u8 (P 5), .int .u8 (P 6), .int .u8 (P 7), .int .u8 (P 8), .int .u8 (P 9), .int .u8 (P 10), .int .u8 (P 11), .int .u8 (P 12), .int .u8 (P 13), .int .u8 (P 14), .int .u8 (P 15), .int .i64 48] _ Try.underlying26 rfl (by kernel_rfl) (by kernel_rfl) ?_)
    | (refine ld_part ((Blk.new (w.alloc _) 23 _ rfl).alloc _) rfl 23 (.tmp 3) rfl 0 rfl (a16 X) _ Try.underlying23 rfl (by kernel_rfl) (by kernel_rfl) ?_)
    | (refine ld_part B0 rfl 26 (.tmp 2) rfl 0 rfl #[.int .u8 (P 0), .int .u8 (P 1), .int .u8 (P 2), .int .u8 (P 3), .int .u8 (P 4), .int .u8 (P 5), .int .u8 (P 6), .int .u8 (P 7), .int .u8 (P 8), .int .u8 (P 9), .int .u8 (P 10), .int .u8 (P 11), .int .u8 (P 12), .int .u8 (P 13), .int .u8 (P 14), .int .u8 (P 15), .int .i64 48] _ Try.underlying26 rfl (by kernel_rfl) (by kernel_rfl) ?_)
    | (go_at_call 21; (with_reducible refine (c21 _).mono ?_); rintro e w4 ⟨rfl, hb2⟩; have B1 := B1.below hb2; have B2 := B2.below hb2; have HB := HB.trans (hb2.mono (by omega)); clear q8 B0 hb2)
    )
  refine wp_loop_rounds 5 ?_
  rw [rounds_succ]
  go_wp2_with (first
    | (refine ld_cell B1 rfl 5 _ rfl _ rfl _ .u8 Try.underlying5 rfl ?_)
    | (refine st_cell B2 rfl 5 _ _ rfl _ rfl _ rfl (by kernel_rfl) (by kernel_rfl) rfl rfl ?_; intro w5 B2' O; have B1 := B1.oth O (by omega); have HB := oth_below HB O (by omega); clear O B2; have B2 := B2'; clear B2')
    | (refine ld_part B2 rfl 31 (.tmp 4) rfl 0 rfl #[.int .u8 (X 6), .int .u8 (X 7), .int .u8 (X 9), .int .u8 (X 10)] _ Try.underlying31 rfl (by kernel_rfl) (by kernel_rfl) ?_)
    | (refine st_row B2 rfl 31 (.tmp 4) _ rfl rfl _ rfl (by kernel_rfl) (by kernel_rfl) (by kernel_rfl) ?_; clear B2; intro w9 B2 O; have HB := oth_below HB O (by omega)))
  rw [rounds_succ]
  go_wp2_with (first
    | (refine ld_cell B1 rfl 5 _ rfl _ rfl _ .u8 Try.underlying5 rfl ?_)
    | (refine st_cell B2 rfl 5 _ _ rfl _ rfl _ rfl (by kernel_rfl) (by kernel_rfl) rfl rfl ?_; intro w6 B2' O; have B1 := B1.oth O (by omega); have HB := oth_below HB O (by omega); clear O B2; have B2 := B2'; clear B2')
    | (refine ld_part B2 rfl 31 (.tmp 4) rfl 0 rfl #[.int .u8 (X 6), .int .u8 (X 7), .int .u8 (X 9), .int .u8 (X 10)] _ Try.underlying31 rfl (by kernel_rfl) (by kernel_rfl) ?_)
    | (refine st_row B2 rfl 31 (.tmp 4) _ rfl rfl _ rfl (by kernel_rfl) (by kernel_rfl) (by kernel_rfl) ?_; clear B2; intro w9 B2 O; have HB := oth_below HB O (by omega)))
  rw [rounds_succ]
  go_wp2_with (first
    | (refine ld_cell B1 rfl 5 _ rfl _ rfl _ .u8 Try.underlying5 rfl ?_)
    | (refine st_cell B2 rfl 5 _ _ rfl _ rfl _ rfl (by kernel_rfl) (by kernel_rfl) rfl rfl ?_; intro w7 B2' O; have B1 := B1.oth O (by omega); have HB := oth_below HB O (by omega); clear O B2; have B2 := B2'; clear B2')
    | (refine ld_part B2 rfl 31 (.tmp 4) rfl 0 rfl #[.int .u8 (X 6), .int .u8 (X 7), .int .u8 (X 9), .int .u8 (X 10)] _ Try.underlying31 rfl (by kernel_rfl) (by kernel_rfl) ?_)
    | (refine st_row B2 rfl 31 (.tmp 4) _ rfl rfl _ rfl (by kernel_rfl) (by kernel_rfl) (by kernel_rfl) ?_; clear B2; intro w9 B2 O; have HB := oth_below HB O (by omega)))
  rw [rounds_succ]
  go_wp2_with (first
    | (refine ld_cell B1 rfl 5 _ rfl _ rfl _ .u8 Try.underlying5 rfl ?_)
    | (refine st_cell B2 rfl 5 _ _ rfl _ rfl _ rfl (by kernel_rfl) (by kernel_rfl) rfl rfl ?_; intro w8 B2' O; have B1 := B1.oth O (by omega); have HB := oth_below HB O (by omega); clear O B2; have B2 := B2'; clear B2')
    | (refine ld_part B2 rfl 31 (.tmp 4) rfl 0 rfl #[.int .u8 (X 6), .int .u8 (X 7), .int .u8 (X 9), .int .u8 (X 10)] _ Try.underlying31 rfl (by kernel_rfl) (by kernel_rfl) ?_)
    | (refine st_row B2 rfl 31 (.tmp 4) _ rfl rfl _ rfl (by kernel_rfl) (by kernel_rfl) (by kernel_rfl) ?_; clear B2; intro w9 B2 O; have HB := oth_below HB O (by omega)))
  rw [rounds_succ]
  go_wp2_with (first
    | (refine ld_cell B1 rfl 5 _ rfl _ rfl _ .u8 Try.underlying5 rfl ?_)
    | (refine st_cell B2 rfl 5 _ _ rfl _ rfl _ rfl (by kernel_rfl) (by kernel_rfl) rfl rfl ?_; intro w9 B2' O; have B1 := B1.oth O (by omega); have HB := oth_below HB O (by omega); clear O B2; have B2 := B2'; clear B2')
    | (refine ld_part B2 rfl 31 (.tmp 4) rfl 0 rfl #[.int .u8 (X 6), .int .u8 (X 7), .int .u8 (X 9), .int .u8 (X 10)] _ Try.underlying31 rfl (by kernel_rfl) (by kernel_rfl) ?_)
    | (refine st_row B2 rfl 31 (.tmp 4) _ rfl rfl _ rfl (by kernel_rfl) (by kernel_rfl) (by kernel_rfl) ?_; clear B2; intro w9 B2 O; have HB := oth_below HB O (by omega)))
  refine bodyPost_ret (v := .tuple #[.agg #[.int .u8 (X 6), .int .u8 (X 7), .int .u8 (X 9), .int .u8 (X 10)], .bool true]) (results_cell_tmp rfl B2 _ rfl _ rfl Try.underlying31 rfl (by kernel_rfl)) rfl ⟨rfl, HB⟩
set_option maxHeartbeats 4000000 in
theorem extract_56 (P X : Nat → Int) (w : World) (bp : Bytes 16 P) (bx : Bytes 16 X) (h : InsideP P X 56) (h8 : X 8 = 0) : Calls Try.prog 12 #[net P 56, .agg (a16 X)] w fun e w' => e = .returned (.tuple #[.agg #[.int .u8 (X 7), .int .u8 (X 9), .int .u8 (X 10), .int .u8 (X 11)], .bool true]) ∧ Below w.heap.size w w' := by
  have c19 := fun w => inside_any P X 56 w bp bx true (by simp [h])
  have t8 : (X 8 != 0) = false := by simp [h8]
  have c21 := fun w => places_56 P w
  clear h bp bx h8
  have i0 : ∀ w, (Instr.index 45 (.agg #[.int .i64 7, .int .i64 9, .int .i64 10, .int .i64 11]) (.int .i64 0)).run Try.prog w = .ok (.int .i64 7) w := fun _ => by kernel_rfl
  have i1 : ∀ w, (Instr.index 45 (.agg #[.int .i64 7, .int .i64 9, .int .i64 10, .int .i64 11]) (.int .i64 1)).run Try.prog w = .ok (.int .i64 9) w := fun _ => by kernel_rfl
  have i2 : ∀ w, (Instr.index 45 (.agg #[.int .i64 7, .int .i64 9, .int .i64 10, .int .i64 11]) (.int .i64 2)).run Try.prog w = .ok (.int .i64 10) w := fun _ => by kernel_rfl
  have i3 : ∀ w, (Instr.index 45 (.agg #[.int .i64 7, .int .i64 9, .int .i64 10, .int .i64 11]) (.int .i64 3)).run Try.prog w = .ok (.int .i64 11) w := fun _ => by kernel_rfl
  go_enter Try.func12, Try.ntmps12
  go_wp2_with (first
    | (go_at_call 19; (with_reducible refine (c19 _).mono ?_); rintro e w1 ⟨rfl, hb1⟩; have HB : Below w.heap.size w w1 := ((((Below.refl _ _).alloc (Nat.le_refl _) _).alloc (by simp) _).alloc (by simp; omega) _).trans (hb1.mono (by simp; omega)); have B0 := (((Blk.new w 26 _ rfl).alloc _).alloc _).below hb1; have B1 := ((Blk.new _ 23 (a16 X) (by simp : _ = w.heap.size + 1)).alloc _).below hb1; have B2 := (Blk.new _ 31 _ (by simp : _ = w.heap.size + 1 + 1)).below hb1; have s2 := B2.lt; have q8 : w1.cell? ⟨w.heap.size + 1, 8, none⟩ = some (.int .u8 (X 8)) := B1.cell rfl; clear hb1 c19)
    | (refine ld_part (((Blk.new w 26 _ rfl).alloc _).alloc _) rfl 26 (.tmp 2) rfl 0 rfl #[.int .u8 (P 0), .int .u8 (P 1), .int .u8 (P 2), .int .u8 (P 3), .int .u8 (P 4), .int .u8 (P 5), .int .u8 (P 6), .int .u8 (P 7), .int .u8 (P 8), .int .u8 (P 9), .int .u8 (P 10), .int .u8 (P 11), .int .u8 (P 12), .int .u8 (P 13), .int .u8 (P 14), .int .u8 (P 15), .int .i64 56] _ Try.underlying26 rfl (by kernel_rfl) (by kernel_rfl) ?_)
    | (refine ld_part ((Blk.new (w.alloc _) 23 _ rfl).alloc _) rfl 23 (.tmp 3) rfl 0 rfl (a16 X) _ Try.underlying23 rfl (by kernel_rfl) (by kernel_rfl) ?_)
    | (refine ld_part B0 rfl 26 (.tmp 2) rfl 0 rfl #[.int .u8 (P 0), .int .u8 (P 1), .int .u8 (P 2), .int .u8 (P 3), .int .u8 (P 4), .int .u8 (P 5), .int .u8 (P 6), .int .u8 (P 7), .int .u8 (P 8), .int .u8 (P 9), .int .u8 (P 10), .int .u8 (P 11), .int .u8 (P 12), .int .u8 (P 13), .int .u8 (P 14), .int .u8 (P 15), .int .i64 56] _ Try.underlying26 rfl (by kernel_rfl) (by kernel_rfl) ?_)
    | (go_at_call 21; (with_reducible refine (c21 _).mono ?_); rintro e w4 ⟨rfl, hb2⟩; have B1 := B1.below hb2; have B2 := B2.below hb2; have HB := HB.trans (hb2.mono (by omega)); clear q8 B0 hb2)
    )
  refine wp_loop_rounds 5 ?_
  rw [rounds_succ]
  go_wp2_with (first
    | (refine ld_cell B1 rfl 5 _ rfl _ rfl _ .u8 Try.underlying5 rfl ?_)
    | (refine st_cell B2 rfl 5 _ _ rfl _ rfl _ rfl (by kernel_rfl) (by kernel_rfl) rfl rfl ?_; intro w5 B2' O; have B1 := B1.oth O (by omega); have HB := oth_below HB O (by omega); clear O B2; have B2 := B2'; clear B2')
    | (refine ld_part B2 rfl 31 (.tmp 4) rfl 0 rfl #[.int .u8 (X 7), .int .u8 (X 9), .int .u8 (X 10), .int .u8 (X 11)] _ Try.underlying31 rfl (by kernel_rfl) (by kernel_rfl) ?_)
    | (refine st_row B2 rfl 31 (.tmp 4) _ rfl rfl _ rfl (by kernel_rfl) (by kernel_rfl) (by kernel_rfl) ?_; clear B2; intro w9 B2 O; have HB := oth_below HB O (by omega)))
  rw [rounds_succ]
  go_wp2_with (first
    | (refine ld_cell B1 rfl 5 _ rfl _ rfl _ .u8 Try.underlying5 rfl ?_)
    | (refine st_cell B2 rfl 5 _ _ rfl _ rfl _ rfl (by kernel_rfl) (by kernel_rfl) rfl rfl ?_; intro w6 B2' O; have B1 := B1.oth O (by omega); have HB := oth_below HB O (by omega); clear O B2; have B2 := B2'; clear B2')
    | (refine ld_part B2 rfl 31 (.tmp 4) rfl 0 rfl #[.int .u8 (X 7), .int .u8 (X 9), .int .u8 (X 10), .int .u8 (X 11)] _ Try.underlying31 rfl (by kernel_rfl) (by kernel_rfl) ?_)
    | (refine st_row B2 rfl 31 (.tmp 4) _ rfl rfl _ rfl (by kernel_rfl) (by kernel_rfl) (by kernel_rfl) ?_; clear B2; intro w9 B2 O; have HB := oth_below HB O (by omega)))
  rw [rounds_succ]
  go_wp2_with (first
    | (refine ld_cell B1 rfl 5 _ rfl _ rfl _ .u8 Try.underlying5 rfl ?_)
    | (refine st_cell B2 rfl 5 _ _ rfl _ rfl _ rfl (by kernel_rfl) (by kernel_rfl) rfl rfl ?_; intro w7 B2' O; have B1 := B1.oth O (by omega); have HB := oth_below HB O (by omega); clear O B2; have B2 := B2'; clear B2')
    | (refine ld_part B2 rfl 31 (.tmp 4) rfl 0 rfl #[.int .u8 (X 7), .int .u8 (X 9), .int .u8 (X 10), .int .u8 (X 11)] _ Try.underlying31 rfl (by kernel_rfl) (by kernel_rfl) ?_)
    | (refine st_row B2 rfl 31 (.tmp 4) _ rfl rfl _ rfl (by kernel_rfl) (by kernel_rfl) (by kernel_rfl) ?_; clear B2; intro w9 B2 O; have HB := oth_below HB O (by omega)))
  rw [rounds_succ]
  go_wp2_with (first
    | (refine ld_cell B1 rfl 5 _ rfl _ rfl _ .u8 Try.underlying5 rfl ?_)
    | (refine st_cell B2 rfl 5 _ _ rfl _ rfl _ rfl (by kernel_rfl) (by kernel_rfl) rfl rfl ?_; intro w8 B2' O; have B1 := B1.oth O (by omega); have HB := oth_below HB O (by omega); clear O B2; have B2 := B2'; clear B2')
    | (refine ld_part B2 rfl 31 (.tmp 4) rfl 0 rfl #[.int .u8 (X 7), .int .u8 (X 9), .int .u8 (X 10), .int .u8 (X 11)] _ Try.underlying31 rfl (by kernel_rfl) (by kernel_rfl) ?_)
    | (refine st_row B2 rfl 31 (.tmp 4) _ rfl rfl _ rfl (by kernel_rfl) (by kernel_rfl) (by kernel_rfl) ?_; clear B2; intro w9 B2 O; have HB := oth_below HB O (by omega)))
  rw [rounds_succ]
  go_wp2_with (first
    | (refine ld_cell B1 rfl 5 _ rfl _ rfl _ .u8 Try.underlying5 rfl ?_)
    | (refine st_cell B2 rfl 5 _ _ rfl _ rfl _ rfl (by kernel_rfl) (by kernel_rfl) rfl rfl ?_; intro w9 B2' O; have B1 := B1.oth O (by omega); have HB := oth_below HB O (by omega); clear O B2; have B2 := B2'; clear B2')
    | (refine ld_part B2 rfl 31 (.tmp 4) rfl 0 rfl #[.int .u8 (X 7), .int .u8 (X 9), .int .u8 (X 10), .int .u8 (X 11)] _ Try.underlying31 rfl (by kernel_rfl) (by kernel_rfl) ?_)
    | (refine st_row B2 rfl 31 (.tmp 4) _ rfl rfl _ rfl (by kernel_rfl) (by kernel_rfl) (by kernel_rfl) ?_; clear B2; intro w9 B2 O; have HB := oth_below HB O (by omega)))
  refine bodyPost_ret (v := .tuple #[.agg #[.int .u8 (X 7), .int .u8 (X 9), .int .u8 (X 10), .int .u8 (X 11)], .bool true]) (results_cell_tmp rfl B2 _ rfl _ rfl Try.underlying31 rfl (by kernel_rfl)) rfl ⟨rfl, HB⟩
set_option maxHeartbeats 4000000 in
theorem extract_64 (P X : Nat → Int) (w : World) (bp : Bytes 16 P) (bx : Bytes 16 X) (h : InsideP P X 64) (h8 : X 8 = 0) : Calls Try.prog 12 #[net P 64, .agg (a16 X)] w fun e w' => e = .returned (.tuple #[.agg #[.int .u8 (X 9), .int .u8 (X 10), .int .u8 (X 11), .int .u8 (X 12)], .bool true]) ∧ Below w.heap.size w w' := by
  have c19 := fun w => inside_any P X 64 w bp bx true (by simp [h])
  have t8 : (X 8 != 0) = false := by simp [h8]
  have c21 := fun w => places_64 P w
  clear h bp bx h8
  have i0 : ∀ w, (Instr.index 45 (.agg #[.int .i64 9, .int .i64 10, .int .i64 11, .int .i64 12]) (.int .i64 0)).run Try.prog w = .ok (.int .i64 9) w := fun _ => by kernel_rfl
  have i1 : ∀ w, (Instr.index 45 (.agg #[.int .i64 9, .int .i64 10, .int .i64 11, .int .i64 12]) (.int .i64 1)).run Try.prog w = .ok (.int .i64 10) w := fun _ => by kernel_rfl
  have i2 : ∀ w, (Instr.index 45 (.agg #[.int .i64 9, .int .i64 10, .int .i64 11, .int .i64 12]) (.int .i64 2)).run Try.prog w = .ok (.int .i64 11) w := fun _ => by kernel_rfl
  have i3 : ∀ w, (Instr.index 45 (.agg #[.int .i64 9, .int .i64 10, .int .i64 11, .int .i64 12]) (.int .i64 3)).run Try.prog w = .ok (.int .i64 12) w := fun _ => by kernel_rfl
  go_enter Try.func12, Try.ntmps12
  go_wp2_with (first
    | (go_at_call 19; (with_reducible refine (c19 _).mono ?_); rintro e w1 ⟨rfl, hb1⟩; have HB : Below w.heap.size w w1 := ((((Below.refl _ _).alloc (Nat.le_refl _) _).alloc (by simp) _).alloc (by simp; omega) _).trans (hb1.mono (by simp; omega)); have B0 := (((Blk.new w 26 _ rfl).alloc _).alloc _).below hb1; have B1 := ((Blk.new _ 23 (a16 X) (by simp : _ = w.heap.size + 1)).alloc _).below hb1; have B2 := (Blk.new _ 31 _ (by simp : _ = w.heap.size + 1 + 1)).below hb1; have s2 := B2.lt; have q8 : w1.cell? ⟨w.heap.size + 1, 8, none⟩ = some (.int .u8 (X 8)) := B1.cell rfl; clear hb1 c19)
    | (refine ld_part (((Blk.new w 26 _ rfl).alloc _).alloc _) rfl 26 (.tmp 2) rfl 0 rfl #[.int .u8 (P 0), .int .u8 (P 1), .int .u8 (P 2), .int .u8 (P 3), .int .u8 (P 4), .int .u8 (P 5), .int .u8 (P 6), .int .u8 (P 7), .int .u8 (P 8), .int .u8 (P 9), .int .u8 (P 10), .int .u8 (P 11), .int .u8 (P 12), .int .u8 (P 13), .int .u8 (P 14), .int .u8 (P 15), .int .i64 64] _ Try.underlying26 rfl (by kernel_rfl) (by kernel_rfl) ?_)
    | (refine ld_part ((Blk.new (w.alloc _) 23 _ rfl).alloc _) rfl 23 (.tmp 3) rfl 0 rfl (a16 X) _ Try.underlying23 rfl (by kernel_rfl) (by kernel_rfl) ?_)
    | (refine ld_part B0 rfl 26 (.tmp 2) rfl 0 rfl #[.int .u8 (P 0), .int .u8 (P 1), .int .u8 (P 2), .int .u8 (P 3), .int .u8 (P 4), .int .u8 (P 5), .int .u8 (P 6), .int .u8 (P 7), .int .u8 (P 8), .int .u8 (P 9), .int .u8 (P 10), .int .u8 (P 11), .int .u8 (P 12), .int .u8 (P 13), .int .u8 (P 14), .int .u8 (P 15), .int .i64 64] _ Try.underlying26 rfl (by kernel_rfl) (by kernel_rfl) ?_)
    | (go_at_call 21; (with_reducible refine (c21 _).mono ?_); rintro e w4 ⟨rfl, hb2⟩; have B1 := B1.below hb2; have B2 := B2.below hb2; have HB := HB.trans (hb2.mono (by omega)); clear q8 B0 hb2)
    )
  refine wp_loop_rounds 5 ?_
  rw [rounds_succ]
  go_wp2_with (first
    | (refine ld_cell B1 rfl 5 _ rfl _ rfl _ .u8 Try.underlying5 rfl ?_)
    | (refine st_cell B2 rfl 5 _ _ rfl _ rfl _ rfl (by kernel_rfl) (by kernel_rfl) rfl rfl ?_; intro w5 B2' O; have B1 := B1.oth O (by omega); have HB := oth_below HB O (by omega); clear O B2; have B2 := B2'; clear B2')
    | (refine ld_part B2 rfl 31 (.tmp 4) rfl 0 rfl #[.int .u8 (X 9), .int .u8 (X 10), .int .u8 (X 11), .int .u8 (X 12)] _ Try.underlying31 rfl (by kernel_rfl) (by kernel_rfl) ?_)
    | (refine st_row B2 rfl 31 (.tmp 4) _ rfl rfl _ rfl (by kernel_rfl) (by kernel_rfl) (by kernel_rfl) ?_; clear B2; intro w9 B2 O; have HB := oth_below HB O (by omega)))
  rw [rounds_succ]
  go_wp2_with (first
    | (refine ld_cell B1 rfl 5 _ rfl _ rfl _ .u8 Try.underlying5 rfl ?_)
    | (refine st_cell B2 rfl 5 _ _ rfl _ rfl _ rfl (by kernel_rfl) (by kernel_rfl) rfl rfl ?_; intro w6 B2' O; have B1 := B1.oth O (by omega); have HB := oth_below HB O (by omega); clear O B2; have B2 := B2'; clear B2')
    | (refine ld_part B2 rfl 31 (.tmp 4) rfl 0 rfl #[.int .u8 (X 9), .int .u8 (X 10), .int .u8 (X 11), .int .u8 (X 12)] _ Try.underlying31 rfl (by kernel_rfl) (by kernel_rfl) ?_)
    | (refine st_row B2 rfl 31 (.tmp 4) _ rfl rfl _ rfl (by kernel_rfl) (by kernel_rfl) (by kernel_rfl) ?_; clear B2; intro w9 B2 O; have HB := oth_below HB O (by omega)))
  rw [rounds_succ]
  go_wp2_with (first
    | (refine ld_cell B1 rfl 5 _ rfl _ rfl _ .u8 Try.underlying5 rfl ?_)
    | (refine st_cell B2 rfl 5 _ _ rfl _ rfl _ rfl (by kernel_rfl) (by kernel_rfl) rfl rfl ?_; intro w7 B2' O; have B1 := B1.oth O (by omega); have HB := oth_below HB O (by omega); clear O B2; have B2 := B2'; clear B2')
    | (refine ld_part B2 rfl 31 (.tmp 4) rfl 0 rfl #[.int .u8 (X 9), .int .u8 (X 10), .int .u8 (X 11), .int .u8 (X 12)] _ Try.underlying31 rfl (by kernel_rfl) (by kernel_rfl) ?_)
    | (refine st_row B2 rfl 31 (.tmp 4) _ rfl rfl _ rfl (by kernel_rfl) (by kernel_rfl) (by kernel_rfl) ?_; clear B2; intro w9 B2 O; have HB := oth_below HB O (by omega)))
  rw [rounds_succ]
  go_wp2_with (first
    | (refine ld_cell B1 rfl 5 _ rfl _ rfl _ .u8 Try.underlying5 rfl ?_)
    | (refine st_cell B2 rfl 5 _ _ rfl _ rfl _ rfl (by kernel_rfl) (by kernel_rfl) rfl rfl ?_; intro w8 B2' O; have B1 := B1.oth O (by omega); have HB := oth_below HB O (by omega); clear O B2; have B2 := B2'; clear B2')
    | (refine ld_part B2 rfl 31 (.tmp 4) rfl 0 rfl #[.int .u8 (X 9), .int .u8 (X 10), .int .u8 (X 11), .int .u8 (X 12)] _ Try.underlying31 rfl (by kernel_rfl) (by kernel_rfl) ?_)
    | (refine st_row B2 rfl 31 (.tmp 4) _ rfl rfl _ rfl (by kernel_rfl) (by kernel_rfl) (by kernel_rfl) ?_; clear B2; intro w9 B2 O; have HB := oth_below HB O (by omega)))
  rw [rounds_succ]
  go_wp2_with (first
    | (refine ld_cell B1 rfl 5 _ rfl _ rfl _ .u8 Try.underlying5 rfl ?_)
    | (refine st_cell B2 rfl 5 _ _ rfl _ rfl _ rfl (by kernel_rfl) (by kernel_rfl) rfl rfl ?_; intro w9 B2' O; have B1 := B1.oth O (by omega); have HB := oth_below HB O (by omega); clear O B2; have B2 := B2'; clear B2')
    | (refine ld_part B2 rfl 31 (.tmp 4) rfl 0 rfl #[.int .u8 (X 9), .int .u8 (X 10), .int .u8 (X 11), .int .u8 (X 12)] _ Try.underlying31 rfl (by kernel_rfl) (by kernel_rfl) ?_)
    | (refine st_row B2 rfl 31 (.tmp 4) _ rfl rfl _ rfl (by kernel_rfl) (by kernel_rfl) (by kernel_rfl) ?_; clear B2; intro w9 B2 O; have HB := oth_below HB O (by omega)))
  refine bodyPost_ret (v := .tuple #[.agg #[.int .u8 (X 9), .int .u8 (X 10), .int .u8 (X 11), .int .u8 (X 12)], .bool true]) (results_cell_tmp rfl B2 _ rfl _ rfl Try.underlying31 rfl (by kernel_rfl)) rfl ⟨rfl, HB⟩
set_option maxHeartbeats 4000000 in
theorem extract_96 (P X : Nat → Int) (w : World) (bp : Bytes 16 P) (bx : Bytes 16 X) (h : InsideP P X 96) (h8 : X 8 = 0) : Calls Try.prog 12 #[net P 96, .agg (a16 X)] w fun e w' => e = .returned (.tuple #[.agg #[.int .u8 (X 12), .int .u8 (X 13), .int .u8 (X 14), .int .u8 (X 15)], .bool true]) ∧ Below w.heap.size w w' := by
  have c19 := fun w => inside_any P X 96 w bp bx true (by simp [h])
  have t8 : (X 8 != 0) = false := by simp [h8]
  have c21 := fun w => places_96 P w
  clear h bp bx h8
  have i0 : ∀ w, (Instr.index 45 (.agg #[.int .i64 12, .int .i64 13, .int .i64 14, .int .i64 15]) (.int .i64 0)).run Try.prog w = .ok (.int .i64 12) w := fun _ => by kernel_rfl
  have i1 : ∀ w, (Instr.index 45 (.agg #[.int .i64 12, .int .i64 13, .int .i64 14, .int .i64 15]) (.int .i64 1)).run Try.prog w = .ok (.int .i64 13) w := fun _ => by kernel_rfl
  have i2 : ∀ w, (Instr.index 45 (.agg #[.int .i64 12, .int .i64 13, .int .i64 14, .int .i64 15]) (.int .i64 2)).run Try.prog w = .ok (.int .i64 14) w := fun _ => by kernel_rfl
  have i3 : ∀ w, (Instr.index 45 (.agg #[.int .i64 12, .int .i64 13, .int .i64 14, .int .i64 15]) (.int .i64 3)).run Try.prog w = .ok (.int .i64 15) w := fun _ => by kernel_rfl
  go_enter Try.func12, Try.ntmps12
  go_wp2_with (first
    | (go_at_call 19; (with_reducible refine (c19 _).mono ?_); rintro e w1 ⟨rfl, hb1⟩; have HB : Below w.heap.size w w1 := ((((Below.refl _ _).alloc (Nat.le_refl _) _).alloc (by simp) _).alloc (by simp; omega) _).trans (hb1.mono (by simp; omega)); have B0 := (((Blk.new w 26 _ rfl).alloc _).alloc _).below hb1; have B1 := ((Blk.new _ 23 (a16 X) (by simp : _ = w.heap.size + 1)).alloc _).below hb1; have B2 := (Blk.new _ 31 _ (by simp : _ = w.heap.size + 1 + 1)).below hb1; have s2 := B2.lt; have q8 : w1.cell? ⟨w.heap.size + 1, 8, none⟩ = some (.int .u8 (X 8)) := B1.cell rfl; clear hb1 c19)
    | (refine ld_part (((Blk.new w 26 _ rfl).alloc _).alloc _) rfl 26 (.tmp 2) rfl 0 rfl #[.int .u8 (P 0), .int .u8 (P 1), .int .u8 (P 2), .int .u8 (P 3), .int .u8 (P 4), .int .u8 (P 5), .int .u8 (P 6), .int .u8 (P 7), .int .u8 (P 8), .int .u8 (P 9), .int .u8 (P 10), .int .u8 (P 11), .int .u8 (P 12), .int .u8 (P 13), .int .u8 (P 14), .int .u8 (P 15), .int .i64 96] _ Try.underlying26 rfl (by kernel_rfl) (by kernel_rfl) ?_)
    | (refine ld_part ((Blk.new (w.alloc _) 23 _ rfl).alloc _) rfl 23 (.tmp 3) rfl 0 rfl (a16 X) _ Try.underlying23 rfl (by kernel_rfl) (by kernel_rfl) ?_)
    | (refine ld_part B0 rfl 26 (.tmp 2) rfl 0 rfl #[.int .u8 (P 0), .int .u8 (P 1), .int .u8 (P 2), .int .u8 (P 3), .int .u8 (P 4), .int .u8 (P 5), .int .u8 (P 6), .int .u8 (P 7), .int .u8 (P 8), .int .u8 (P 9), .int .u8 (P 10), .int .u8 (P 11), .int .u8 (P 12), .int .u8 (P 13), .int .u8 (P 14), .int .u8 (P 15), .int .i64 96] _ Try.underlying26 rfl (by kernel_rfl) (by kernel_rfl) ?_)
    | (go_at_call 21; (with_reducible refine (c21 _).mono ?_); rintro e w4 ⟨rfl, hb2⟩; have B1 := B1.below hb2; have B2 := B2.below hb2; have HB := HB.trans (hb2.mono (by omega)); clear q8 B0 hb2)
    )
  refine wp_loop_rounds 5 ?_
  rw [rounds_succ]
  go_wp2_with (first
    | (refine ld_cell B1 rfl 5 _ rfl _ rfl _ .u8 Try.underlying5 rfl ?_)
    | (refine st_cell B2 rfl 5 _ _ rfl _ rfl _ rfl (by kernel_rfl) (by kernel_rfl) rfl rfl ?_; intro w5 B2' O; have B1 := B1.oth O (by omega); have HB := oth_below HB O (by omega); clear O B2; have B2 := B2'; clear B2')
    | (refine ld_part B2 rfl 31 (.tmp 4) rfl 0 rfl #[.int .u8 (X 12), .int .u8 (X 13), .int .u8 (X 14), .int .u8 (X 15)] _ Try.underlying31 rfl (by kernel_rfl) (by kernel_rfl) ?_)
    | (refine st_row B2 rfl 31 (.tmp 4) _ rfl rfl _ rfl (by kernel_rfl) (by kernel_rfl) (by kernel_rfl) ?_; clear B2; intro w9 B2 O; have HB := oth_below HB O (by omega)))
  rw [rounds_succ]
  go_wp2_with (first
    | (refine ld_cell B1 rfl 5 _ rfl _ rfl _ .u8 Try.underlying5 rfl ?_)
    | (refine st_cell B2 rfl 5 _ _ rfl _ rfl _ rfl (by kernel_rfl) (by kernel_rfl) rfl rfl ?_; intro w6 B2' O; have B1 := B1.oth O (by omega); have HB := oth_below HB O (by omega); clear O B2; have B2 := B2'; clear B2')
    | (refine ld_part B2 rfl 31 (.tmp 4) rfl 0 rfl #[.int .u8 (X 12), .int .u8 (X 13), .int .u8 (X 14), .int .u8 (X 15)] _ Try.underlying31 rfl (by kernel_rfl) (by kernel_rfl) ?_)
    | (refine st_row B2 rfl 31 (.tmp 4) _ rfl rfl _ rfl (by kernel_rfl) (by kernel_rfl) (by kernel_rfl) ?_; clear B2; intro w9 B2 O; have HB := oth_below HB O (by omega)))
  rw [rounds_succ]
  go_wp2_with (first
    | (refine ld_cell B1 rfl 5 _ rfl _ rfl _ .u8 Try.underlying5 rfl ?_)
    | (refine st_cell B2 rfl 5 _ _ rfl _ rfl _ rfl (by kernel_rfl) (by kernel_rfl) rfl rfl ?_; intro w7 B2' O; have B1 := B1.oth O (by omega); have HB := oth_below HB O (by omega); clear O B2; have B2 := B2'; clear B2')
    | (refine ld_part B2 rfl 31 (.tmp 4) rfl 0 rfl #[.int .u8 (X 12), .int .u8 (X 13), .int .u8 (X 14), .int .u8 (X 15)] _ Try.underlying31 rfl (by kernel_rfl) (by kernel_rfl) ?_)
    | (refine st_row B2 rfl 31 (.tmp 4) _ rfl rfl _ rfl (by kernel_rfl) (by kernel_rfl) (by kernel_rfl) ?_; clear B2; intro w9 B2 O; have HB := oth_below HB O (by omega)))
  rw [rounds_succ]
  go_wp2_with (first
    | (refine ld_cell B1 rfl 5 _ rfl _ rfl _ .u8 Try.underlying5 rfl ?_)
    | (refine st_cell B2 rfl 5 _ _ rfl _ rfl _ rfl (by kernel_rfl) (by kernel_rfl) rfl rfl ?_; intro w8 B2' O; have B1 := B1.oth O (by omega); have HB := oth_below HB O (by omega); clear O B2; have B2 := B2'; clear B2')
    | (refine ld_part B2 rfl 31 (.tmp 4) rfl 0 rfl #[.int .u8 (X 12), .int .u8 (X 13), .int .u8 (X 14), .int .u8 (X 15)] _ Try.underlying31 rfl (by kernel_rfl) (by kernel_rfl) ?_)
    | (refine st_row B2 rfl 31 (.tmp 4) _ rfl rfl _ rfl (by kernel_rfl) (by kernel_rfl) (by kernel_rfl) ?_; clear B2; intro w9 B2 O; have HB := oth_below HB O (by omega)))
  rw [rounds_succ]
  go_wp2_with (first
    | (refine ld_cell B1 rfl 5 _ rfl _ rfl _ .u8 Try.underlying5 rfl ?_)
    | (refine st_cell B2 rfl 5 _ _ rfl _ rfl _ rfl (by kernel_rfl) (by kernel_rfl) rfl rfl ?_; intro w9 B2' O; have B1 := B1.oth O (by omega); have HB := oth_below HB O (by omega); clear O B2; have B2 := B2'; clear B2')
    | (refine ld_part B2 rfl 31 (.tmp 4) rfl 0 rfl #[.int .u8 (X 12), .int .u8 (X 13), .int .u8 (X 14), .int .u8 (X 15)] _ Try.underlying31 rfl (by kernel_rfl) (by kernel_rfl) ?_)
    | (refine st_row B2 rfl 31 (.tmp 4) _ rfl rfl _ rfl (by kernel_rfl) (by kernel_rfl) (by kernel_rfl) ?_; clear B2; intro w9 B2 O; have HB := oth_below HB O (by omega)))
  refine bodyPost_ret (v := .tuple #[.agg #[.int .u8 (X 12), .int .u8 (X 13), .int .u8 (X 14), .int .u8 (X 15)], .bool true]) (results_cell_tmp rfl B2 _ rfl _ rfl Try.underlying31 rfl (by kernel_rfl)) rfl ⟨rfl, HB⟩
end Go.Proofs.Ytafonnelennlhaa
