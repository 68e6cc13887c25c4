/-
  Contract of embed.Embed. Conditions stand in each statement.
-/
import Derived.Test.YtafonnelennlhaaB
import Derived.Test.YtafonnelennlhaaL
namespace Go.Proofs.Ytafonnelennlhaa
open Go.RowKit

set_option maxHeartbeats 4000000 in
theorem embed_f (P A : Nat → Int) (n : Int) (w : World) (h : ¬ RightP P n) : Calls Try.prog 10 #[net P n, .agg (a4 A)] w fun e w' => e = .returned (.tuple #[.agg (a16 fun _ => 0), .bool false]) ∧ Below w.heap.size w w' := by
  have c15 := fun w => right_f P n w h
  clear h
  go_enter Try.func10, Try.ntmps10
  go_wp2_with (first | (go_at_call 15; (with_reducible refine (c15 _).mono ?_); rintro e w1 ⟨rfl, hb1⟩; have HB : Below w.heap.size w w1 := ((((Below.refl _ _).alloc (Nat.le_refl _) _).alloc (by simp) _).alloc (by simp; omega) _).trans (hb1.mono (by simp; omega)); have B2 := (Blk.new _ 23 _ (by simp : _ = w.heap.size + 1 + 1)).below hb1) | (refine wpList_load_row rfl 26 (.tmp 2) rfl _ rfl 26 _ (0, 0) _ (((Blk.new w 26 _ rfl).alloc _).alloc _) Try.underlying26 rfl (by kernel_rfl) ?_) | (refine st_row B2 rfl 23 _ _ rfl rfl _ rfl (by kernel_rfl) rfl (by kernel_rfl) ?_; clear B2; intro w2 B2 O2; have HB := oth_below HB O2 (by omega)))
  refine bodyPost_ret (v := .tuple #[.agg (a16 fun _ => 0), .bool false]) (results_cell_tmp rfl B2 _ rfl _ rfl Try.underlying23 rfl (by kernel_rfl)) rfl ⟨rfl, HB⟩
set_option maxHeartbeats 4000000 in
theorem embed_32 (P A : Nat → Int) (w : World) (h : RightP P 32) : Calls Try.prog 10 #[net P 32, .agg (a4 A)] w fun e w' => e = .returned (.tuple #[.agg #[.int .u8 (P 0), .int .u8 (P 1), .int .u8 (P 2), .int .u8 (P 3), .int .u8 (A 0), .int .u8 (A 1), .int .u8 (A 2), .int .u8 (A 3), .int .u8 (P 8), .int .u8 (P 9), .int .u8 (P 10), .int .u8 (P 11), .int .u8 (P 12), .int .u8 (P 13), .int .u8 (P 14), .int .u8 (P 15)], .bool true]) ∧ Below w.heap.size w w' := by
  have c15 := fun w => right_t P 32 w h
  have c21 := fun w => places_32 P w
  clear h
  have i0 : ∀ w, (Instr.index 45 (.agg #[.int .i64 4, .int .i64 5, .int .i64 6, .int .i64 7]) (.int .i64 0)).run Try.prog w = .ok (.int .i64 4) w := fun _ => by kernel_rfl
  have i1 : ∀ w, (Instr.index 45 (.agg #[.int .i64 4, .int .i64 5, .int .i64 6, .int .i64 7]) (.int .i64 1)).run Try.prog w = .ok (.int .i64 5) w := fun _ => by kernel_rfl
  have i2 : ∀ w, (Instr.index 45 (.agg #[.int .i64 4, .int .i64 5, .int .i64 6, .int .i64 7]) (.int .i64 2)).run Try.prog w = .ok (.int .i64 6) w := fun _ => by kernel_rfl
  have i3 : ∀ w, (Instr.index 45 (.agg #[.int .i64 4, .int .i64 5, .int .i64 6, .int .i64 7]) (.int .i64 3)).run Try.prog w = .ok (.int .i64 7) w := fun _ => by kernel_rfl
  go_enter Try.func10, Try.ntmps10
  go_wp2_with (first
    | (go_at_call 15; (with_reducible refine (c15 _).mono ?_); rintro e w1 ⟨rfl, hb1⟩; have HB : Below w.heap.size w w1 := ((((Below.refl _ _).alloc (Nat.le_refl _) _).alloc (by simp) _).alloc (by simp; omega) _).trans (hb1.mono (by simp; omega)); have B0 := (((Blk.new w 26 _ rfl).alloc _).alloc _).below hb1; have B1 := ((Blk.new _ 31 _ (by simp : _ = w.heap.size + 1)).alloc _).below hb1; have B2 := (Blk.new _ 23 _ (by simp : _ = w.heap.size + 1 + 1)).below hb1; have s2 := B2.lt; clear hb1 c15)
    | (go_at_call 21; (with_reducible refine (c21 _).mono ?_); rintro e w4 ⟨rfl, hb2⟩; have B1 := B1.below hb2; have B2 := B2.below hb2; have B3 := B3.below hb2; have HB := HB.trans (hb2.mono (by omega)); clear B0 hb2)
    | (refine wpList_load_row rfl 26 (.tmp 2) rfl _ rfl 26 _ (0, 0) _ (((Blk.new w 26 _ rfl).alloc _).alloc _) Try.underlying26 rfl (by kernel_rfl) ?_)
    | (refine ld_part B0 rfl 23 (.tmp 13) rfl 0 rfl (a16 P) _ Try.underlying23 rfl (by kernel_rfl) (by kernel_rfl) ?_)
    | (refine ld_part B0 rfl 26 (.tmp 2) rfl 0 rfl #[.int .u8 (P 0), .int .u8 (P 1), .int .u8 (P 2), .int .u8 (P 3), .int .u8 (P 4), .int .u8 (P 5), .int .u8 (P 6), .int .u8 (P 7), .int .u8 (P 8), .int .u8 (P 9), .int .u8 (P 10), .int .u8 (P 11), .int .u8 (P 12), .int .u8 (P 13), .int .u8 (P 14), .int .u8 (P 15), .int .i64 32] _ Try.underlying26 rfl (by kernel_rfl) (by kernel_rfl) ?_)
    | (refine st_row (Blk.new w1 23 _ rfl) rfl 23 (.tmp 6) _ rfl rfl _ rfl (by kernel_rfl) rfl (by kernel_rfl) ?_; intro w3 B3 O3; have s3 := O3.size; rw [World.size_alloc] at s3; have B0 := (B0.alloc _).oth O3 (by omega); have B1 := (B1.alloc _).oth O3 (by omega); have B2 := (B2.alloc _).oth O3 (by omega); have HB := oth_below (HB.alloc HB.size _) O3 (by omega))
    )
  refine wp_loop_rounds 5 ?_
  rw [rounds_succ]
  go_wp2_with (first
    | (refine ld_cell B1 rfl 5 _ rfl _ rfl _ .u8 Try.underlying5 rfl ?_)
    | (refine st_cell B3 rfl 5 _ _ rfl _ rfl _ rfl (by kernel_rfl) (by kernel_rfl) rfl rfl ?_; intro w5 B3' O; have B1 := B1.oth O (by omega); have B2 := B2.oth O (by omega); have HB := oth_below HB O (by omega); clear O B3; have B3 := B3'; clear B3')
    | (refine ld_part B3 rfl 23 (.tmp 6) rfl 0 rfl #[.int .u8 (P 0), .int .u8 (P 1), .int .u8 (P 2), .int .u8 (P 3), .int .u8 (A 0), .int .u8 (A 1), .int .u8 (A 2), .int .u8 (A 3), .int .u8 (P 8), .int .u8 (P 9), .int .u8 (P 10), .int .u8 (P 11), .int .u8 (P 12), .int .u8 (P 13), .int .u8 (P 14), .int .u8 (P 15)] _ Try.underlying23 rfl (by kernel_rfl) (by kernel_rfl) ?_)
    | (refine st_row B2 rfl 23 (.tmp 4) _ rfl rfl _ rfl (by kernel_rfl) rfl (by kernel_rfl) ?_; clear B2; intro w9 B2 O; have HB := oth_below HB O (by omega)))
  rw [rounds_succ]
  go_wp2_with (first
    | (refine ld_cell B1 rfl 5 _ rfl _ rfl _ .u8 Try.underlying5 rfl ?_)
    | (refine st_cell B3 rfl 5 _ _ rfl _ rfl _ rfl (by kernel_rfl) (by kernel_rfl) rfl rfl ?_; intro w6 B3' O; have B1 := B1.oth O (by omega); have B2 := B2.oth O (by omega); have HB := oth_below HB O (by omega); clear O B3; have B3 := B3'; clear B3')
    | (refine ld_part B3 rfl 23 (.tmp 6) rfl 0 rfl #[.int .u8 (P 0), .int .u8 (P 1), .int .u8 (P 2), .int .u8 (P 3), .int .u8 (A 0), .int .u8 (A 1), .int .u8 (A 2), .int .u8 (A 3), .int .u8 (P 8), .int .u8 (P 9), .int .u8 (P 10), .int .u8 (P 11), .int .u8 (P 12), .int .u8 (P 13), .int .u8 (P 14), .int .u8 (P 15)] _ Try.underlying23 rfl (by kernel_rfl) (by kernel_rfl) ?_)
    | (refine st_row B2 rfl 23 (.tmp 4) _ rfl rfl _ rfl (by kernel_rfl) rfl (by kernel_rfl) ?_; clear B2; intro w9 B2 O; have HB := oth_below HB O (by omega)))
  rw [rounds_succ]
  go_wp2_with (first
    | (refine ld_cell B1 rfl 5 _ rfl _ rfl _ .u8 Try.underlying5 rfl ?_)
    | (refine st_cell B3 rfl 5 _ _ rfl _ rfl _ rfl (by kernel_rfl) (by kernel_rfl) rfl rfl ?_; intro w7 B3' O; have B1 := B1.oth O (by omega); have B2 := B2.oth O (by omega); have HB := oth_below HB O (by omega); clear O B3; have B3 := B3'; clear B3')
    | (refine ld_part B3 rfl 23 (.tmp 6) rfl 0 rfl #[.int .u8 (P 0), .int .u8 (P 1), .int .u8 (P 2), .int .u8 (P 3), .int .u8 (A 0), .int .u8 (A 1), .int .u8 (A 2), .int .u8 (A 3), .int .u8 (P 8), .int .u8 (P 9), .int .u8 (P 10), .int .u8 (P 11), .int .u8 (P 12), .int .u8 (P 13), .int .u8 (P 14), .int .u8 (P 15)] _ Try.underlying23 rfl (by kernel_rfl) (by kernel_rfl) ?_)
    | (refine st_row B2 rfl 23 (.tmp 4) _ rfl rfl _ rfl (by kernel_rfl) rfl (by kernel_rfl) ?_; clear B2; intro w9 B2 O; have HB := oth_below HB O (by omega)))
  rw [rounds_succ]
  go_wp2_with (first
    | (refine ld_cell B1 rfl 5 _ rfl _ rfl _ .u8 Try.underlying5 rfl ?_)
    | (refine st_cell B3 rfl 5 _ _ rfl _ rfl _ rfl (by kernel_rfl) (by kernel_rfl) rfl rfl ?_; intro w8 B3' O; have B1 := B1.oth O (by omega); have B2 := B2.oth O (by omega); have HB := oth_below HB O (by omega); clear O B3; have B3 := B3'; clear B3')
    | (refine ld_part B3 rfl 23 (.tmp 6) rfl 0 rfl #[.int .u8 (P 0), .int .u8 (P 1), .int .u8 (P 2), .int .u8 (P 3), .int .u8 (A 0), .int .u8 (A 1), .int .u8 (A 2), .int .u8 (A 3), .int .u8 (P 8), .int .u8 (P 9), .int .u8 (P 10), .int .u8 (P 11), .int .u8 (P 12), .int .u8 (P 13), .int .u8 (P 14), .int .u8 (P 15)] _ Try.underlying23 rfl (by kernel_rfl) (by kernel_rfl) ?_)
    | (refine st_row B2 rfl 23 (.tmp 4) _ rfl rfl _ rfl (by kernel_rfl) rfl (by kernel_rfl) ?_; clear B2; intro w9 B2 O; have HB := oth_below HB O (by omega)))
  rw [rounds_succ]
  go_wp2_with (first
    | (refine ld_cell B1 rfl 5 _ rfl _ rfl _ .u8 Try.underlying5 rfl ?_)
    | (refine st_cell B3 rfl 5 _ _ rfl _ rfl _ rfl (by kernel_rfl) (by kernel_rfl) rfl rfl ?_; intro w9 B3' O; have B1 := B1.oth O (by omega); have B2 := B2.oth O (by omega); have HB := oth_below HB O (by omega); clear O B3; have B3 := B3'; clear B3')
    | (refine ld_part B3 rfl 23 (.tmp 6) rfl 0 rfl #[.int .u8 (P 0), .int .u8 (P 1), .int .u8 (P 2), .int .u8 (P 3), .int .u8 (A 0), .int .u8 (A 1), .int .u8 (A 2), .int .u8 (A 3), .int .u8 (P 8), .int .u8 (P 9), .int .u8 (P 10), .int .u8 (P 11), .int .u8 (P 12), .int .u8 (P 13), .int .u8 (P 14), .int .u8 (P 15)] _ Try.underlying23 rfl (by kernel_rfl) (by kernel_rfl) ?_)
    | (refine st_row B2 rfl 23 (.tmp 4) _ rfl rfl _ rfl (by kernel_rfl) rfl (by kernel_rfl) ?_; clear B2; intro w9 B2 O; have HB := oth_below HB O (by omega)))
  refine bodyPost_ret (v := .tuple #[.agg #[.int .u8 (P 0), .int .u8 (P 1), .int .u8 (P 2), .int .u8 (P 3), .int .u8 (A 0), .int .u8 (A 1), .int .u8 (A 2), .int .u8 (A 3), .int .u8 (P 8), .int .u8 (P 9), .int .u8 (P 10), .int .u8 (P 11), .int .u8 (P 12), .int .u8 (P 13), .int .u8 (P 14), .int .u8 (P 15)], .bool true]) (results_cell_tmp rfl B2 _ rfl _ rfl Try.underlying23 rfl (by kernel_rfl)) rfl ⟨rfl, HB⟩
set_option maxHeartbeats 4000000 in
theorem embed_40 (P A : Nat → Int) (w : World) (h : RightP P 40) : Calls Try.prog 10 #[net P 40, .agg (a4 A)] w fun e w' => e = .returned (.tuple #[.agg #[.int .u8 (P 0), .int .u8 (P 1), .int .u8 (P 2), .int .u8 (P 3), .int .u8 (P 4), .int .u8 (A 0), .int .u8 (A 1), .int .u8 (A 2), .int .u8 (P 8), .int .u8 (A 3), .int .u8 (P 10), .int .u8 (P 11), .int .u8 (P 12), .int .u8 (P 13), .int .u8 (P 14), .int .u8 (P 15)], .bool true]) ∧ Below w.heap.size w w' := by
  have c15 := fun w => right_t P 40 w h
  have c21 := fun w => places_40 P w
  clear h
  have i0 : ∀ w, (Instr.index 45 (.agg #[.int .i64 5, .int .i64 6, .int .i64 7, .int .i64 9]) (.int .i64 0)).run Try.prog w = .ok (.int .i64 5) w := fun _ => by kernel_rfl
  have i1 : ∀ w, (Instr.index 45 (.agg #[.int .i64 5, .int .i64 6, .int .i64 7, .int .i64 9]) (.int .i64 1)).run Try.prog w = .ok (.int .i64 6) w := fun _ => by kernel_rfl
  have i2 : ∀ w, (Instr.index 45 (.agg #[.int .i64 5, .int .i64 6, .int .i64 7, .int .i64 9]) (.int .i64 2)).run Try.prog w = .ok (.int .i64 7) w := fun _ => by kernel_rfl
  have i3 : ∀ w, (Instr.index 45 (.agg #[.int .i64 5, .int .i64 6, .int .i64 7, .int .i64 9]) (.int .i64 3)).run Try.prog w = .ok (.int .i64 9) w := fun _ => by kernel_rfl
  go_enter Try.func10, Try.ntmps10
  go_wp2_with (first
    | (go_at_call 15; (with_reducible refine (c15 _).mono ?_); rintro e w1 ⟨rfl, hb1⟩; have HB : Below w.heap.size w w1 := ((((Below.refl _ _).alloc (Nat.le_refl _) _).alloc (by simp) _).alloc (by simp; omega) _).trans (hb1.mono (by simp; omega)); have B0 := (((Blk.new w 26 _ rfl).alloc _).alloc _).below hb1; have B1 := ((Blk.new _ 31 _ (by simp : _ = w.heap.size + 1)).alloc _).below hb1; have B2 := (Blk.new _ 23 _ (by simp : _ = w.heap.size + 1 + 1)).below hb1; have s2 := B2.lt; clear hb1 c15)
    | (go_at_call 21; (with_reducible refine (c21 _).mono ?_); rintro e w4 ⟨rfl, hb2⟩; have B1 := B1.below hb2; have B2 := B2.below hb2; have B3 := B3.below hb2; have HB := HB.trans (hb2.mono (by omega)); clear B0 hb2)
    | (refine wpList_load_row rfl 26 (.tmp 2) rfl _ rfl 26 _ (0, 0) _ (((Blk.new w 26 _ rfl).alloc _).alloc _) Try.underlying26 rfl (by kernel_rfl) ?_)
    | (refine ld_part B0 rfl 23 (.tmp 13) rfl 0 rfl (a16 P) _ Try.underlying23 rfl (by kernel_rfl) (by kernel_rfl) ?_)
    | (refine ld_part B0 rfl 26 (.tmp 2) rfl 0 rfl #[.int .u8 (P 0), .int .u8 (P 1), .int .u8 (P 2), .int .u8 (P 3), .int .u8 (P 4), .int .u8 (P 5), .int .u8 (P 6), .int .u8 (P 7), .int .u8 (P 8), .int .u8 (P 9), .int .u8 (P 10), .int .u8 (P 11), .int .u8 (P 12), .int .u8 (P 13), .int .u8 (P 14), .int .u8 (P 15), .int .i64 40] _ Try.underlying26 rfl (by kernel_rfl) (by kernel_rfl) ?_)
    | (refine st_row (Blk.new w1 23 _ rfl) rfl 23 (.tmp 6) _ rfl rfl _ rfl (by kernel_rfl) rfl (by kernel_rfl) ?_; intro w3 B3 O3; have s3 := O3.size; rw [World.size_alloc] at s3; have B0 := (B0.alloc _).oth O3 (by omega); have B1 := (B1.alloc _).oth O3 (by omega); have B2 := (B2.alloc _).oth O3 (by omega); have HB := oth_below (HB.alloc HB.size _) O3 (by omega))
    )
  refine wp_loop_rounds 5 ?_
  rw [rounds_succ]
  go_wp2_with (first
    | (refine ld_cell B1 rfl 5 _ rfl _ rfl _ .u8 Try.underlying5 rfl ?_)
    | (refine st_cell B3 rfl 5 _ _ rfl _ rfl _ rfl (by kernel_rfl) (by kernel_rfl) rfl rfl ?_; intro w5 B3' O; have B1 := B1.oth O (by omega); have B2 := B2.oth O (by omega); have HB := oth_below HB O (by omega); clear O B3; have B3 := B3'; clear B3')
    | (refine ld_part B3 rfl 23 (.tmp 6) rfl 0 rfl #[.int .u8 (P 0), .int .u8 (P 1), .int .u8 (P 2), .int .u8 (P 3), .int .u8 (P 4), .int .u8 (A 0), .int .u8 (A 1), .int .u8 (A 2), .int .u8 (P 8), .int .u8 (A 3), .int .u8 (P 10), .int .u8 (P 11), .int .u8 (P 12), .int .u8 (P 13), .int .u8 (P 14), .int .u8 (P 15)] _ Try.underlying23 rfl (by kernel_rfl) (by kernel_rfl) ?_)
    | (refine st_row B2 rfl 23 (.tmp 4) _ rfl rfl _ rfl (by kernel_rfl) rfl (by kernel_rfl) ?_; clear B2; intro w9 B2 O; have HB := oth_below HB O (by omega)))
  rw [rounds_succ]
  go_wp2_with (first
    | (refine ld_cell B1 rfl 5 _ rfl _ rfl _ .u8 Try.underlying5 rfl ?_)
    | (refine st_cell B3 rfl 5 _ _ rfl _ rfl _ rfl (by kernel_rfl) (by kernel_rfl) rfl rfl ?_; intro w6 B3' O; have B1 := B1.oth O (by omega); have B2 := B2.oth O (by omega); have HB := oth_below HB O (by omega); clear O B3; have B3 := B3'; clear B3')
    | (refine ld_part B3 rfl 23 (.tmp 6) rfl 0 rfl #[.int .u8 (P 0), .int .u8 (P 1), .int .u8 (P 2), .int .u8 (P 3), .int .u8 (P 4), .int .u8 (A 0), .int .u8 (A 1), .int .u8 (A 2), .int .u8 (P 8), .int .u8 (A 3), .int .u8 (P 10), .int .u8 (P 11), .int .u8 (P 12), .int .u8 (P 13), .int .u8 (P 14), .int .u8 (P 15)] _ Try.underlying23 rfl (by kernel_rfl) (by kernel_rfl) ?_)
    | (refine st_row B2 rfl 23 (.tmp 4) _ rfl rfl _ rfl (by kernel_rfl) rfl (by kernel_rfl) ?_; clear B2; intro w9 B2 O; have HB := oth_below HB O (by omega)))
  rw [rounds_succ]
  go_wp2_with (first
    | (refine ld_cell B1 rfl 5 _ rfl _ rfl _ .u8 Try.underlying5 rfl ?_)
    | (refine st_cell B3 rfl 5 _ _ rfl _ rfl _ rfl (by kernel_rfl) (by kernel_rfl) rfl rfl ?_; intro w7 B3' O; have B1 := B1.oth O (by omega); have B2 := B2.oth O (by omega); have HB := oth_below HB O (by omega); clear O B3; have B3 := B3'; clear B3')
    | (refine ld_part B3 rfl 23 (.tmp 6) rfl 0 rfl #[.int .u8 (P 0), .int .u8 (P 1), .int .u8 (P 2), .int .u8 (P 3), .int .u8 (P 4), .int .u8 (A 0), .int .u8 (A 1), .int .u8 (A 2), .int .u8 (P 8), .int .u8 (A 3), .int .u8 (P 10), .int .u8 (P 11), .int .u8 (P 12), .int .u8 (P 13), .int .u8 (P 14), .int .u8 (P 15)] _ Try.underlying23 rfl (by kernel_rfl) (by kernel_rfl) ?_)
    | (refine st_row B2 rfl 23 (.tmp 4) _ rfl rfl _ rfl (by kernel_rfl) rfl (by kernel_rfl) ?_; clear B2; intro w9 B2 O; have HB := oth_below HB O (by omega)))
  rw [rounds_succ]
  go_wp2_with (first
    | (refine ld_cell B1 rfl 5 _ rfl _ rfl _ .u8 Try.underlying5 rfl ?_)
    | (refine st_cell B3 rfl 5 _ _ rfl _ rfl _ rfl (by kernel_rfl) (by kernel_rfl) rfl rfl ?_; intro w8 B3' O; have B1 := B1.oth O (by omega); have B2 := B2.oth O (by omega); have HB := oth_below HB O (by omega); clear O B3; have B3 := B3'; clear B3')
    | (refine ld_part B3 rfl 23 (.tmp 6) rfl 0 rfl #[.int .u8 (P 0), .int .u8 (P 1), .int .u8 (P 2), .int .u8 (P 3), .int .u8 (P 4), .int .u8 (A 0), .int .u8 (A 1), .int .u8 (A 2), .int .u8 (P 8), .int .u8 (A 3), .int .u8 (P 10), .int .u8 (P 11), .int .u8 (P 12), .int .u8 (P 13), .int .u8 (P 14), .int .u8 (P 15)] _ Try.underlying23 rfl (by kernel_rfl) (by kernel_rfl) ?_)
    | (refine st_row B2 rfl 23 (.tmp 4) _ rfl rfl _ rfl (by kernel_rfl) rfl (by kernel_rfl) ?_; clear B2; intro w9 B2 O; have HB := oth_below HB O (by omega)))
  rw [rounds_succ]
  go_wp2_with (first
    | (refine ld_cell B1 rfl 5 _ rfl _ rfl _ .u8 Try.underlying5 rfl ?_)
    | (refine st_cell B3 rfl 5 _ _ rfl _ rfl _ rfl (by kernel_rfl) (by kernel_rfl) rfl rfl ?_; intro w9 B3' O; have B1 := B1.oth O (by omega); have B2 := B2.oth O (by omega); have HB := oth_below HB O (by omega); clear O B3; have B3 := B3'; clear B3')
    | (refine ld_part B3 rfl 23 (.tmp 6) rfl 0 rfl #[.int .u8 (P 0), .int .u8 (P 1), .int .u8 (P 2), .int .u8 (P 3), .int .u8 (P 4), .int .u8 (A 0), .int .u8 (A 1), .int .u8 (A 2), .int .u8 (P 8), .int .u8 (A 3), .int .u8 (P 10), .int .u8 (P 11), .int .u8 (P 12), .int .u8 (P 13), .int .u8 (P 14), .int .u8 (P 15)] _ Try.underlying23 rfl (by kernel_rfl) (by kernel_rfl) ?_)
    | (refine st_row B2 rfl 23 (.tmp 4) _ rfl rfl _ rfl (by kernel_rfl) rfl (by kernel_rfl) ?_; clear B2; intro w9 B2 O; have HB := oth_below HB O (by omega)))
  refine bodyPost_ret (v := .tuple #[.agg #[.int .u8 (P 0), .int .u8 (P 1), .int .u8 (P 2), .int .u8 (P 3), .int .u8 (P 4), .int .u8 (A 0), .int .u8 (A 1), .int .u8 (A 2), .int .u8 (P 8), .int .u8 (A 3), .int .u8 (P 10), .int .u8 (P 11), .int .u8 (P 12), .int .u8 (P 13), .int .u8 (P 14), .int .u8 (P 15)], .bool true]) (results_cell_tmp rfl B2 _ rfl _ rfl Try.underlying23 rfl (by kernel_rfl)) rfl ⟨rfl, HB⟩
set_option maxHeartbeats 4000000 in
theorem embed_48 (P A : Nat → Int) (w : World) (h : RightP P 48) : Calls Try.prog 10 #[net P 48, .agg (a4 A)] w fun e w' => e = .returned (.tuple #[.agg #[.int .u8 (P 0), .int .u8 (P 1), .int .u8 (P 2), .int .u8 (P 3), .int .u8 (P 4), .int .u8 (P 5), .int .u8 (A 0), .int .u8 (A 1), .int .u8 (P 8), .int .u8 (A 2), .int .u8 (A 3), .int .u8 (P 11), .int .u8 (P 12), .int .u8 (P 13), .int .u8 (P 14), .int .u8 (P 15)], .bool true]) ∧ Below w.heap.size w w' := by
  have c15 := fun w => right_t P 48 w h
  have c21 := fun w => places_48 P w
  clear h
  have i0 : ∀ w, (Instr.index 45 (.agg #[.int .i64 6, .int .i64 7, .int .i64 9, .int .i64 10]) (.int .i64 0)).run Try.prog w = .ok (.int .i64 6) w := fun _ => by kernel_rfl
  have i1 : ∀ w, (Instr.index 45 (.agg #[.int .i64 6, .int .i64 7, .int .i64 9, .int .i64 10]) (.int .i64 1)).run Try.prog w = .ok (.int .i64 7) w := fun _ => by kernel_rfl
  have i2 : ∀ w, (Instr.index 45 (.agg #[.int .i64 6, .int .i64 7, .int .i64 9, .int .i64 10]) (.int .i64 2)).run Try.prog w = .ok (.int .i64 9) w := fun _ => by kernel_rfl
  have i3 : ∀ w, (Instr.index 45 (.agg #[.int .i64 6, .int .i64 7, .int .i64 9, .int .i64 10]) (.int .i64 3)).run Try.prog w = .ok (.int .i64 10) w := fun _ => by kernel_rfl
  go_enter Try.func10, Try.ntmps10
  go_wp2_with (first
    | (go_at_call 15; (with_reducible refine (c15 _).mono ?_); rintro e w1 ⟨rfl, hb1⟩; have HB : Below w.heap.size w w1 := ((((Below.refl _ _).alloc (Nat.le_refl _) _).alloc (by simp) _).alloc (by simp; omega) _).trans (hb1.mono (by simp; omega)); have B0 := (((Blk.new w 26 _ rfl).alloc _).alloc _).below hb1; have B1 := ((Blk.new _ 31 _ (by simp : _ = w.heap.size + 1)).alloc _).below hb1; have B2 := (Blk.new _ 23 _ (by simp : _ = w.heap.size + 1 + 1)).below hb1; have s2 := B2.lt; clear hb1 c15)
    | (go_at_call 21; (with_reducible refine (c21 _).mono ?_); rintro e w4 ⟨rfl, hb2⟩; have B1 := B1.below hb2; have B2 := B2.below hb2; have B3 := B3.below hb2; have HB := HB.trans (hb2.mono (by omega)); clear B0 hb2)
    | (refine wpList_load_row rfl 26 (.tmp 2) rfl _ rfl 26 _ (0, 0) _ (((Blk.new w 26 _ rfl).alloc _).alloc _) Try.underlying26 rfl (by kernel_rfl) ?_)
    | (refine ld_part B0 rfl 23 (.tmp 13) rfl 0 rfl (a16 P) _ Try.underlying23 rfl (by kernel_rfl) (by kernel_rfl) ?_)
    | (refine ld_part B0 rfl 26 (.tmp 2) rfl 0 rfl #[.int .u8 (P 0), .int .u8 (P 1), .int .u8 (P 2), .int .u8 (P 3), .int .u8 (P 4), .int .u8 (P 5), .int .u8 (P 6), .int .u8 (P 7), .int .u8 (P 8), .int .u8 (P 9), .int .u8 (P 10), .int .u8 (P 11), .int .u8 (P 12), .int .u8 (P 13), .int .u8 (P 14), .int .u8 (P 15), .int .i64 48] _ Try.underlying26 rfl (by kernel_rfl) (by kernel_rfl) ?_)
    | (refine st_row (Blk.new w1 23 _ rfl) rfl 23 (.tmp 6) _ rfl rfl _ rfl (by kernel_rfl) rfl (by kernel_rfl) ?_; intro w3 B3 O3; have s3 := O3.size; rw [World.size_alloc] at s3; have B0 := (B0.alloc _).oth O3 (by omega); have B1 := (B1.alloc _).oth O3 (by omega); have B2 := (B2.alloc _).oth O3 (by omega); have HB := oth_below (HB.alloc HB.size _) O3 (by omega))
    )
  refine wp_loop_rounds 5 ?_
  rw [rounds_succ]
  go_wp2_with (first
    | (refine ld_cell B1 rfl 5 _ rfl _ rfl _ .u8 Try.underlying5 rfl ?_)
    | (refine st_cell B3 rfl 5 _ _ rfl _ rfl _ rfl (by kernel_rfl) (by kernel_rfl) rfl rfl ?_; intro w5 B3' O; have B1 := B1.oth O (by omega); have B2 := B2.oth O (by omega); have HB := oth_below HB O (by omega); clear O B3; have B3 := B3'; clear B3')
    | (refine ld_part B3 rfl 23 (.tmp 6) rfl 0 rfl #[.int .u8 (P 0), .int .u8 (P 1), .int .u8 (P 2), .int .u8 (P 3), .int .u8 (P 4), .int .u8 (P 5), .int .u8 (A 0), .int .u8 (A 1), .int .u8 (P 8), .int .u8 (A 2), .int .u8 (A 3), .int .u8 (P 11), .int .u8 (P 12), .int .u8 (P 13), .int .u8 (P 14), .int .u8 (P 15)] _ Try.underlying23 rfl (by kernel_rfl) (by kernel_rfl) ?_)
    | (refine st_row B2 rfl 23 (.tmp 4) _ rfl rfl _ rfl (by kernel_rfl) rfl (by kernel_rfl) ?_; clear B2; intro w9 B2 O; have HB := oth_below HB O (by omega)))
  rw [rounds_succ]
  go_wp2_with (first
    | (refine ld_cell B1 rfl 5 _ rfl _ rfl _ .u8 Try.underlying5 rfl ?_)
    | (refine st_cell B3 rfl 5 _ _ rfl _ rfl _ rfl (by kernel_rfl) (by kernel_rfl) rfl rfl ?_; intro w6 B3' O; have B1 := B1.oth O (by omega); have B2 := B2.oth O (by omega); have HB := oth_below HB O (by omega); clear O B3; have B3 := B3'; clear B3')
    | (refine ld_part B3 rfl 23 (.tmp 6) rfl 0 rfl #[.int .u8 (P 0), .int .u8 (P 1), .int .u8 (P 2), .int .u8 (P 3), .int .u8 (P 4), .int .u8 (P 5), .int .u8 (A 0), .int .u8 (A 1), .int .u8 (P 8), .int .u8 (A 2), .int .u8 (A 3), .int .u8 (P 11), .int .u8 (P 12), .int .u8 (P 13), .int .u8 (P 14), .int .u8 (P 15)] _ Try.underlying23 rfl (by kernel_rfl) (by kernel_rfl) ?_)
    | (refine st_row B2 rfl 23 (.tmp 4) _ rfl rfl _ rfl (by kernel_rfl) rfl (by kernel_rfl) ?_; clear B2; intro w9 B2 O; have HB := oth_below HB O (by omega)))
  rw [rounds_succ]
  go_wp2_with (first
    | (refine ld_cell B1 rfl 5 _ rfl _ rfl _ .u8 Try.underlying5 rfl ?_)
    | (refine st_cell B3 rfl 5 _ _ rfl _ rfl _ rfl (by kernel_rfl) (by kernel_rfl) rfl rfl ?_; intro w7 B3' O; have B1 := B1.oth O (by omega); have B2 := B2.oth O (by omega); have HB := oth_below HB O (by omega); clear O B3; have B3 := B3'; clear B3')
    | (refine ld_part B3 rfl 23 (.tmp 6) rfl 0 rfl #[.int .u8 (P 0), .int .u8 (P 1), .int .u8 (P 2), .int .u8 (P 3), .int .u8 (P 4), .int .u8 (P 5), .int .u8 (A 0), .int .u8 (A 1), .int .u8 (P 8), .int .u8 (A 2), .int .u8 (A 3), .int .u8 (P 11), .int .u8 (P 12), .int .u8 (P 13), .int .u8 (P 14), .int .u8 (P 15)] _ Try.underlying23 rfl (by kernel_rfl) (by kernel_rfl) ?_)
    | (refine st_row B2 rfl 23 (.tmp 4) _ rfl rfl _ rfl (by kernel_rfl) rfl (by kernel_rfl) ?_; clear B2; intro w9 B2 O; have HB := oth_below HB O (by omega)))
  rw [rounds_succ]
  go_wp2_with (first
    | (refine ld_cell B1 rfl 5 _ rfl _ rfl _ .u8 Try.underlying5 rfl ?_)
    | (refine st_cell B3 rfl 5 _ _ rfl _ rfl _ rfl (by kernel_rfl) (by kernel_rfl) rfl rfl ?_; intro w8 B3' O; have B1 := B1.oth O (by omega); have B2 := B2.oth O (by omega); have HB := oth_below HB O (by omega); clear O B3; have B3 := B3'; clear B3')
    | (refine ld_part B3 rfl 23 (.tmp 6) rfl 0 rfl #[.int .u8 (P 0), .int .u8 (P 1), .int .u8 (P 2), .int .u8 (P 3), .int .u8 (P 4), .int .u8 (P 5), .int .u8 (A 0), .int .u8 (A 1), .int .u8 (P 8), .int .u8 (A 2), .int .u8 (A 3), .int .u8 (P 11), .int .u8 (P 12), .int .u8 (P 13), .int .u8 (P 14), .int .u8 (P 15)] _ Try.underlying23 rfl (by kernel_rfl) (by kernel_rfl) ?_)
    | (refine st_row B2 rfl 23 (.tmp 4) _ rfl rfl _ rfl (by kernel_rfl) rfl (by kernel_rfl) ?_; clear B2; intro w9 B2 O; have HB := oth_below HB O (by omega)))
  rw [rounds_succ]
  go_wp2_with (first
    | (refine ld_cell B1 rfl 5 _ rfl _ rfl _ .u8 Try.underlying5 rfl ?_)
    | (refine st_cell B3 rfl 5 _ _ rfl _ rfl _ rfl (by kernel_rfl) (by kernel_rfl) rfl rfl ?_; intro w9 B3' O; have B1 := B1.oth O (by omega); have B2 := B2.oth O (by omega); have HB := oth_below HB O (by omega); clear O B3; have B3 := B3'; clear B3')
    | (refine ld_part B3 rfl 23 (.tmp 6) rfl 0 rfl #[.int .u8 (P 0), .int .u8 (P 1), .int .u8 (P 2), .int .u8 (P 3), .int .u8 (P 4), .int .u8 (P 5), .int .u8 (A 0), .int .u8 (A 1), .int .u8 (P 8), .int .u8 (A 2), .int .u8 (A 3), .int .u8 (P 11), .int .u8 (P 12), .int .u8 (P 13), .int .u8 (P 14), .int .u8 (P 15)] _ Try.underlying23 rfl (by kernel_rfl) (by kernel_rfl) ?_)
    | (refine st_row B2 rfl 23 (.tmp 4) _ rfl rfl _ rfl (by kernel_rfl) rfl (by kernel_rfl) ?_; clear B2; intro w9 B2 O; have HB := oth_below HB O (by omega)))
  refine bodyPost_ret (v := .tuple #[.agg #[.int .u8 (P 0), .int .u8 (P 1), .int .u8 (P 2), .int .u8 (P 3), .int .u8 (P 4), .int .u8 (P 5), .int .u8 (A 0), .int .u8 (A 1), .int .u8 (P 8), .int .u8 (A 2), .int .u8 (A 3), .int .u8 (P 11), .int .u8 (P 12), .int .u8 (P 13), .int .u8 (P 14), .int .u8 (P 15)], .bool true]) (results_cell_tmp rfl B2 _ rfl _ rfl Try.underlying23 rfl (by kernel_rfl)) rfl ⟨rfl, HB⟩
set_option maxHeartbeats 4000000 in
theorem embed_56 (P A : Nat → Int) (w : World) (h : RightP P 56) : Calls Try.prog 10 #[net P 56, .agg (a4 A)] w fun e w' => e = .returned (.tuple #[.agg #[.int .u8 (P 0), .int .u8 (P 1), .int .u8 (P 2), .int .u8 (P 3), .int .u8 (P 4), .int .u8 (P 5), .int .u8 (P 6), .int .u8 (A 0), .int .u8 (P 8), .int .u8 (A 1), .int .u8 (A 2), .int .u8 (A 3), .int .u8 (P 12), .int .u8 (P 13), .int .u8 (P 14), .int .u8 (P 15)], .bool true]) ∧ Below w.heap.size w w' := by
  have c15 := fun w => right_t P 56 w h
  have c21 := fun w => places_56 P w
  clear h
  have i0 : ∀ w, (Instr.index 45 (.agg #[.int .i64 7, .int .i64 9, .int .i64 10, .int .i64 11]) (.int .i64 0)).run Try.prog w = .ok (.int .i64 7) w := fun _ => by kernel_rfl
  have i1 : ∀ w, (Instr.index 45 (.agg #[.int .i64 7, .int .i64 9, .int .i64 10, .int .i64 11]) (.int .i64 1)).run Try.prog w = .ok (.int .i64 9) w := fun _ => by kernel_rfl
  have i2 : ∀ w, (Instr.index 45 (.agg #[.int .i64 7, .int .i64 9, .int .i64 10, .int .i64 11]) (.int .i64 2)).run Try.prog w = .ok (.int .i64 10) w := fun _ => by kernel_rfl
  have i3 : ∀ w, (Instr.index 45 (.agg #[.int .i64 7, .int .i64 9, .int .i64 10, .int .i64 11]) (.int .i64 3)).run Try.prog w = .ok (.int .i64 11) w := fun _ => by kernel_rfl
  go_enter Try.func10, Try.ntmps10
  go_wp2_with (first
    | (go_at_call 15; (with_reducible refine (c15 _).mono ?_); rintro e w1 ⟨rfl, hb1⟩; have HB : Below w.heap.size w w1 := ((((Below.refl _ _).alloc (Nat.le_refl _) _).alloc (by simp) _).alloc (by simp; omega) _).trans (hb1.mono (by simp; omega)); have B0 := (((Blk.new w 26 _ rfl).alloc _).alloc _).below hb1; have B1 := ((Blk.new _ 31 _ (by simp : _ = w.heap.size + 1)).alloc _).below hb1; have B2 := (Blk.new _ 23 _ (by simp : _ = w.heap.size + 1 + 1)).below hb1; have s2 := B2.lt; clear hb1 c15)
    | (go_at_call 21; (with_reducible refine (c21 _).mono ?_); rintro e w4 ⟨rfl, hb2⟩; have B1 := B1.below hb2; have B2 := B2.below hb2; have B3 := B3.below hb2; have HB := HB.trans (hb2.mono (by omega)); clear B0 hb2)
    | (refine wpList_load_row rfl 26 (.tmp 2) rfl _ rfl 26 _ (0, 0) _ (((Blk.new w 26 _ rfl).alloc _).alloc _) Try.underlying26 rfl (by kernel_rfl) ?_)
    | (refine ld_part B0 rfl 23 (.tmp 13) rfl 0 rfl (a16 P) _ Try.underlying23 rfl (by kernel_rfl) (by kernel_rfl) ?_)
    | (refine ld_part B0 rfl 26 (.tmp 2) rfl 0 rfl #[.int .u8 (P 0), .int .u8 (P 1), .int .u8 (P 2), .int .u8 (P 3), .int .u8 (P 4), .int .u8 (P 5), .int .u8 (P 6), .int .u8 (P 7), .int .u8 (P 8), .int .u8 (P 9), .int .u8 (P 10), .int .u8 (P 11), .int .u8 (P 12), .int .u8 (P 13), .int .u8 (P 14), .int .u8 (P 15), .int .i64 56] _ Try.underlying26 rfl (by kernel_rfl) (by kernel_rfl) ?_)
    | (refine st_row (Blk.new w1 23 _ rfl) rfl 23 (.tmp 6) _ rfl rfl _ rfl (by kernel_rfl) rfl (by kernel_rfl) ?_; intro w3 B3 O3; have s3 := O3.size; rw [World.size_alloc] at s3; have B0 := (B0.alloc _).oth O3 (by omega); have B1 := (B1.alloc _).oth O3 (by omega); have B2 := (B2.alloc _).oth O3 (by omega); have HB := oth_below (HB.alloc HB.size _) O3 (by omega))
    )
  refine wp_loop_rounds 5 ?_
  rw [rounds_succ]
  go_wp2_with (first
    | (refine ld_cell B1 rfl 5 _ rfl _ rfl _ .u8 Try.underlying5 rfl ?_)
    | (refine st_cell B3 rfl 5 _ _ rfl _ rfl _ rfl (by kernel_rfl) (by kernel_rfl) rfl rfl ?_; intro w5 B3' O; have B1 := B1.oth O (by omega); have B2 := B2.oth O (by omega); have HB := oth_below HB O (by omega); clear O B3; have B3 := B3'; clear B3')
    | (refine ld_part B3 rfl 23 (.tmp 6) rfl 0 rfl #[.int .u8 (P 0), .int .u8 (P 1), .int .u8 (P 2), .int .u8 (P 3), .int .u8 (P 4), .int .u8 (P 5), .int .u8 (P 6), .int .u8 (A 0), .int .u8 (P 8), .int .u8 (A 1), .int .u8 (A 2), .int .u8 (A 3), .int .u8 (P 12), .int .u8 (P 13), .int .u8 (P 14), .int .u8 (P 15)] _ Try.underlying23 rfl (by kernel_rfl) (by kernel_rfl) ?_)
    | (refine st_row B2 rfl 23 (.tmp 4) _ rfl rfl _ rfl (by kernel_rfl) rfl (by kernel_rfl) ?_; clear B2; intro w9 B2 O; have HB := oth_below HB O (by omega)))
  rw [rounds_succ]
  go_wp2_with (first
    | (refine ld_cell B1 rfl 5 _ rfl _ rfl _ .u8 Try.underlying5 rfl ?_)
    | (refine st_cell B3 rfl 5 _ _ rfl _ rfl _ rfl (by kernel_rfl) (by kernel_rfl) rfl rfl ?_; intro w6 B3' O; have B1 := B1.oth O (by omega); have B2 := B2.oth O (by omega); have HB := oth_below HB O (by omega); clear O B3; have B3 := B3'; clear B3')
    | (refine ld_part B3 rfl 23 (.tmp 6) rfl 0 rfl #[.int .u8 (P 0), .int .u8 (P 1), .int .u8 (P 2), .int .u8 (P 3), .int .u8 (P 4), .int .u8 (P 5), .int .u8 (P 6), .int .u8 (A 0), .int .u8 (P 8), .int .u8 (A 1), .int .u8 (A 2), .int .u8 (A 3), .int .u8 (P 12), .int .u8 (P 13), .int .u8 (P 14), .int .u8 (P 15)] _ Try.underlying23 rfl (by kernel_rfl) (by kernel_rfl) ?_)
    | (refine st_row B2 rfl 23 (.tmp 4) _ rfl rfl _ rfl (by kernel_rfl) rfl (by kernel_rfl) ?_; clear B2; intro w9 B2 O; have HB := oth_below HB O (by omega)))
  rw [rounds_succ]
  go_wp2_with (first
    | (refine ld_cell B1 rfl 5 _ rfl _ rfl _ .u8 Try.underlying5 rfl ?_)
    | (refine st_cell B3 rfl 5 _ _ rfl _ rfl _ rfl (by kernel_rfl) (by kernel_rfl) rfl rfl ?_; intro w7 B3' O; have B1 := B1.oth O (by omega); have B2 := B2.oth O (by omega); have HB := oth_below HB O (by omega); clear O B3; have B3 := B3'; clear B3')
    | (refine ld_part B3 rfl 23 (.tmp 6) rfl 0 rfl #[.int .u8 (P 0), .int .u8 (P 1), .int .u8 (P 2), .int .u8 (P 3), .int .u8 (P 4), .int .u8 (P 5), .int .u8 (P 6), .int .u8 (A 0), .int .u8 (P 8), .int .u8 (A 1), .int .u8 (A 2), .int .u8 (A 3), .int .u8 (P 12), .int .u8 (P 13), .int .u8 (P 14), .int .u8 (P 15)] _ Try.underlying23 rfl (by kernel_rfl) (by kernel_rfl) ?_)
    | (refine st_row B2 rfl 23 (.tmp 4) _ rfl rfl _ rfl (by kernel_rfl) rfl (by kernel_rfl) ?_; clear B2; intro w9 B2 O; have HB := oth_below HB O (by omega)))
  rw [rounds_succ]
  go_wp2_with (first
    | (refine ld_cell B1 rfl 5 _ rfl _ rfl _ .u8 Try.underlying5 rfl ?_)
    | (refine st_cell B3 rfl 5 _ _ rfl _ rfl _ rfl (by kernel_rfl) (by kernel_rfl) rfl rfl ?_; intro w8 B3' O; have B1 := B1.oth O (by omega); have B2 := B2.oth O (by omega); have HB := oth_below HB O (by omega); clear O B3; have B3 := B3'; clear B3')
    | (refine ld_part B3 rfl 23 (.tmp 6) rfl 0 rfl #[.int .u8 (P 0), .int .u8 (P 1), .int .u8 (P 2), .int .u8 (P 3), .int .u8 (P 4), .int .u8 (P 5), .int .u8 (P 6), .int .u8 (A 0), .int .u8 (P 8), .int .u8 (A 1), .int .u8 (A 2), .int .u8 (A 3), .int .u8 (P 12), .int .u8 (P 13), .int .u8 (P 14), .int .u8 (P 15)] _ Try.underlying23 rfl (by kernel_rfl) (by kernel_rfl) ?_)
    | (refine st_row B2 rfl 23 (.tmp 4) _ rfl rfl _ rfl (by kernel_rfl) rfl (by kernel_rfl) ?_; clear B2; intro w9 B2 O; have HB := oth_below HB O (by omega)))
  rw [rounds_succ]
  go_wp2_with (first
    | (refine ld_cell B1 rfl 5 _ rfl _ rfl _ .u8 Try.underlying5 rfl ?_)
    | (refine st_cell B3 rfl 5 _ _ rfl _ rfl _ rfl (by kernel_rfl) (by kernel_rfl) rfl rfl ?_; intro w9 B3' O; have B1 := B1.oth O (by omega); have B2 := B2.oth O (by omega); have HB := oth_below HB O (by omega); clear O B3; have B3 := B3'; clear B3')
    | (refine ld_part B3 rfl 23 (.tmp 6) rfl 0 rfl #[.int .u8 (P 0), .int .u8 (P 1), .int .u8 (P 2), .int .u8 (P 3), .int .u8 (P 4), .int .u8 (P 5), .int .u8 (P 6), .int .u8 (A 0), .int .u8 (P 8), .int .u8 (A 1), .int .u8 (A 2), .int .u8 (A 3), .int .u8 (P 12), .int .u8 (P 13), .int .u8 (P 14), .int .u8 (P 15)] _ Try.underlying23 rfl (by kernel_rfl) (by kernel_rfl) ?_)
    | (refine st_row B2 rfl 23 (.tmp 4) _ rfl rfl _ rfl (by kernel_rfl) rfl (by kernel_rfl) ?_; clear B2; intro w9 B2 O; have HB := oth_below HB O (by omega)))
  refine bodyPost_ret (v := .tuple #[.agg #[.int .u8 (P 0), .int .u8 (P 1), .int .u8 (P 2), .int .u8 (P 3), .int .u8 (P 4), .int .u8 (P 5), .int .u8 (P 6), .int .u8 (A 0), .int .u8 (P 8), .int .u8 (A 1), .int .u8 (A 2), .int .u8 (A 3), .int .u8 (P 12), .int .u8 (P 13), .int .u8 (P 14), .int .u8 (P 15)], .bool true]) (results_cell_tmp rfl B2 _ rfl _ rfl Try.underlying23 rfl (by kernel_rfl)) rfl ⟨rfl, HB⟩
set_option maxHeartbeats 4000000 in
theorem embed_64 (P A : Nat → Int) (w : World) (h : RightP P 64) : Calls Try.prog 10 #[net P 64, .agg (a4 A)] w fun e w' => e = .returned (.tuple #[.agg #[.int .u8 (P 0), .int .u8 (P 1), .int .u8 (P 2), .int .u8 (P 3), .int .u8 (P 4), .int .u8 (P 5), .int .u8 (P 6), .int .u8 (P 7), .int .u8 (P 8), .int .u8 (A 0), .int .u8 (A 1), .int .u8 (A 2), .int .u8 (A 3), .int .u8 (P 13), .int .u8 (P 14), .int .u8 (P 15)], .bool true]) ∧ Below w.heap.size w w' := by
  have c15 := fun w => right_t P 64 w h
  have c21 := fun w => places_64 P w
  clear h
  have i0 : ∀ w, (Instr.index 45 (.agg #[.int .i64 9, .int .i64 10, .int .i64 11, .int .i64 12]) (.int .i64 0)).run Try.prog w = .ok (.int .i64 9) w := fun _ => by kernel_rfl
  have i1 : ∀ w, (Instr.index 45 (.agg #[.int .i64 9, .int .i64 10, .int .i64 11, .int .i64 12]) (.int .i64 1)).run Try.prog w = .ok (.int .i64 10) w := fun _ => by kernel_rfl
  have i2 : ∀ w, (Instr.index 45 (.agg #[.int .i64 9, .int .i64 10, .int .i64 11, .int .i64 12]) (.int .i64 2)).run Try.prog w = .ok (.int .i64 11) w := fun _ => by kernel_rfl
  have i3 : ∀ w, (Instr.index 45 (.agg #[.int .i64 9, .int .i64 10, .int .i64 11, .int .i64 12]) (.int .i64 3)).run Try.prog w = .ok (.int .i64 12) w := fun _ => by kernel_rfl
  go_enter Try.func10, Try.ntmps10
  go_wp2_with (first
    | (go_at_call 15; (with_reducible refine (c15 _).mono ?_); rintro e w1 ⟨rfl, hb1⟩; have HB : Below w.heap.size w w1 := ((((Below.refl _ _).alloc (Nat.le_refl _) _).alloc (by simp) _).alloc (by simp; omega) _).trans (hb1.mono (by simp; omega)); have B0 := (((Blk.new w 26 _ rfl).alloc _).alloc _).below hb1; have B1 := ((Blk.new _ 31 _ (by simp : _ = w.heap.size + 1)).alloc _).below hb1; have B2 := (Blk.new _ 23 _ (by simp : _ = w.heap.size + 1 + 1)).below hb1; have s2 := B2.lt; clear hb1 c15)
    | (go_at_call 21; (with_reducible refine (c21 _).mono ?_); rintro e w4 ⟨rfl, hb2⟩; have B1 := B1.below hb2; have B2 := B2.below hb2; have B3 := B3.below hb2; have HB := HB.trans (hb2.mono (by omega)); clear B0 hb2)
    | (refine wpList_load_row rfl 26 (.tmp 2) rfl _ rfl 26 _ (0, 0) _ (((Blk.new w 26 _ rfl).alloc _).alloc _) Try.underlying26 rfl (by kernel_rfl) ?_)
    | (refine ld_part B0 rfl 23 (.tmp 13) rfl 0 rfl (a16 P) _ Try.underlying23 rfl (by kernel_rfl) (by kernel_rfl) ?_)
    | (refine ld_part B0 rfl 26 (.tmp 2) rfl 0 rfl #[.int .u8 (P 0), .int .u8 (P 1), .int .u8 (P 2), .int .u8 (P 3), .int .u8 (P 4), .int .u8 (P 5), .int .u8 (P 6), .int .u8 (P 7), .int .u8 (P 8), .int .u8 (P 9), .int .u8 (P 10), .int .u8 (P 11), .int .u8 (P 12), .int .u8 (P 13), .int .u8 (P 14), .int .u8 (P 15), .int .i64 64] _ Try.underlying26 rfl (by kernel_rfl) (by kernel_rfl) ?_)
    | (refine st_row (Blk.new w1 23 _ rfl) rfl 23 (.tmp 6) _ rfl rfl _ rfl (by kernel_rfl) rfl (by kernel_rfl) ?_; intro w3 B3 O3; have s3 := O3.size; rw [World.size_alloc] at s3; have B0 := (B0.alloc _).oth O3 (by omega); have B1 := (B1.alloc _).oth O3 (by omega); have B2 := (B2.alloc _).oth O3 (by omega); have HB := oth_below (HB.alloc HB.size _) O3 (by omega))
    )
  refine wp_loop_rounds 5 ?_
  rw [rounds_succ]
  go_wp2_with (first
    | (refine ld_cell B1 rfl 5 _ rfl _ rfl _ .u8 Try.underlying5 rfl ?_)
    | (refine st_cell B3 rfl 5 _ _ rfl _ rfl _ rfl (by kernel_rfl) (by kernel_rfl) rfl rfl ?_; intro w5 B3' O; have B1 := B1.oth O (by omega); have B2 := B2.oth O (by omega); have HB := oth_below HB O (by omega); clear O B3; have B3 := B3'; clear B3')
    | (refine ld_part B3 rfl 23 (.tmp 6) rfl 0 rfl #[.int .u8 (P 0), .int .u8 (P 1), .int .u8 (P 2), .int .u8 (P 3), .int .u8 (P 4), .int .u8 (P 5), .int .u8 (P 6), .int .u8 (P 7), .int .u8 (P 8), .int .u8 (A 0), .int .u8 (A 1), .int .u8 (A 2), .int .u8 (A 3), .int .u8 (P 13), .int .u8 (P 14), .int .u8 (P 15)] _ Try.underlying23 rfl (by kernel_rfl) (by kernel_rfl) ?_)
    | (refine st_row B2 rfl 23 (.tmp 4) _ rfl rfl _ rfl (by kernel_rfl) rfl (by kernel_rfl) ?_; clear B2; intro w9 B2 O; have HB := oth_below HB O (by omega)))
  rw [rounds_succ]
  go_wp2_with (first
    | (refine ld_cell B1 rfl 5 _ rfl _ rfl _ .u8 Try.underlying5 rfl ?_)
    | (refine st_cell B3 rfl 5 _ _ rfl _ rfl _ rfl (by kernel_rfl) (by kernel_rfl) rfl rfl ?_; intro w6 B3' O; have B1 := B1.oth O (by omega); have B2 := B2.oth O (by omega); have HB := oth_below HB O (by omega); clear O B3; have B3 := B3'; clear B3')
    | (refine ld_part B3 rfl 23 (.tmp 6) rfl 0 rfl #[.int .u8 (P 0), .int .u8 (P 1), .int .u8 (P 2), .int .u8 (P 3), .int .u8 (P 4), .int .u8 (P 5), .int .u8 (P 6), .int .u8 (P 7), .int .u8 (P 8), .int .u8 (A 0), .int .u8 (A 1), .int .u8 (A 2), .int .u8 (A 3), .int .u8 (P 13), .int .u8 (P 14), .int .u8 (P 15)] _ Try.underlying23 rfl (by kernel_rfl) (by kernel_rfl) ?_)
    | (refine st_row B2 rfl 23 (.tmp 4) _ rfl rfl _ rfl (by kernel_rfl) rfl (by kernel_rfl) ?_; clear B2; intro w9 B2 O; have HB := oth_below HB O (by omega)))
  rw [rounds_succ]
  go_wp2_with (first
    | (refine ld_cell B1 rfl 5 _ rfl _ rfl _ .u8 Try.underlying5 rfl ?_)
    | (refine st_cell B3 rfl 5 _ _ rfl _ rfl _ rfl (by kernel_rfl) (by kernel_rfl) rfl rfl ?_; intro w7 B3' O; have B1 := B1.oth O (by omega); have B2 := B2.oth O (by omega); have HB := oth_below HB O (by omega); clear O B3; have B3 := B3'; clear B3')
    | (refine ld_part B3 rfl 23 (.tmp 6) rfl 0 rfl #[.int .u8 (P 0), .int .u8 (P 1), .int .u8 (P 2), .int .u8 (P 3), .int .u8 (P 4), .int .u8 (P 5), .int .u8 (P 6), .int .u8 (P 7), .int .u8 (P 8), .int .u8 (A 0), .int .u8 (A 1), .int .u8 (A 2), .int .u8 (A 3), .int .u8 (P 13), .int .u8 (P 14), .int .u8 (P 15)] _ Try.underlying23 rfl (by kernel_rfl) (by kernel_rfl) ?_)
    | (refine st_row B2 rfl 23 (.tmp 4) _ rfl rfl _ rfl (by kernel_rfl) rfl (by kernel_rfl) ?_; clear B2; intro w9 B2 O; have HB := oth_below HB O (by omega)))
  rw [rounds_succ]
  go_wp2_with (first
    | (refine ld_cell B1 rfl 5 _ rfl _ rfl _ .u8 Try.underlying5 rfl ?_)
    | (refine st_cell B3 rfl 5 _ _ rfl _ rfl _ rfl (by kernel_rfl) (by kernel_rfl) rfl rfl ?_; intro w8 B3' O; have B1 := B1.oth O (by omega); have B2 := B2.oth O (by omega); have HB := oth_below HB O (by omega); clear O B3; have B3 := B3'; clear B3')
    | (refine ld_part B3 rfl 23 (.tmp 6) rfl 0 rfl #[.int .u8 (P 0), .int .u8 (P 1), .int .u8 (P 2), .int .u8 (P 3), .int .u8 (P 4), .int .u8 (P 5), .int .u8 (P 6), .int .u8 (P 7), .int .u8 (P 8), .int .u8 (A 0), .int .u8 (A 1), .int .u8 (A 2), .int .u8 (A 3), .int .u8 (P 13), .int .u8 (P 14), .int .u8 (P 15)] _ Try.underlying23 rfl (by kernel_rfl) (by kernel_rfl) ?_)
    | (refine st_row B2 rfl 23 (.tmp 4) _ rfl rfl _ rfl (by kernel_rfl) rfl (by kernel_rfl) ?_; clear B2; intro w9 B2 O; have HB := oth_below HB O (by omega)))
  rw [rounds_succ]
  go_wp2_with (first
    | (refine ld_cell B1 rfl 5 _ rfl _ rfl _ .u8 Try.underlying5 rfl ?_)
    | (refine st_cell B3 rfl 5 _ _ rfl _ rfl _ rfl (by kernel_rfl) (by kernel_rfl) rfl rfl ?_; intro w9 B3' O; have B1 := B1.oth O (by omega); have B2 := B2.oth O (by omega); have HB := oth_below HB O (by omega); clear O B3; have B3 := B3'; clear B3')
    | (refine ld_part B3 rfl 23 (.tmp 6) rfl 0 rfl #[.int .u8 (P 0), .int .u8 (P 1), .int .u8 (P 2), .int .u8 (P 3), .int .u8 (P 4), .int .u8 (P 5), .int .u8 (P 6), .int .u8 (P 7), .int .u8 (P 8), .int .u8 (A 0), .int .u8 (A 1), .int .u8 (A 2), .int .u8 (A 3), .int .u8 (P 13), .int .u8 (P 14), .int .u8 (P 15)] _ Try.underlying23 rfl (by kernel_rfl) (by kernel_rfl) ?_)
    | (refine st_row B2 rfl 23 (.tmp 4) _ rfl rfl _ rfl (by kernel_rfl) rfl (by kernel_rfl) ?_; clear B2; intro w9 B2 O; have HB := oth_below HB O (by omega)))
  refine bodyPost_ret (v := .tuple #[.agg #[.int .u8 (P 0), .int .u8 (P 1), .int .u8 (P 2), .int .u8 (P 3), .int .u8 (P 4), .int .u8 (P 5), .int .u8 (P 6), .int .u8 (P 7), .int .u8 (P 8), .int .u8 (A 0), .int .u8 (A 1), .int .u8 (A 2), .int .u8 (A 3), .int .u8 (P 13), .int .u8 (P 14), .int .u8 (P 15)], .bool true]) (results_cell_tmp rfl B2 _ rfl _ rfl Try.underlying23 rfl (by kernel_rfl)) rfl ⟨rfl, HB⟩
set_option maxHeartbeats 4000000 in
theorem embed_96 (P A : Nat → Int) (w : World) (h : RightP P 96) : Calls Try.prog 10 #[net P 96, .agg (a4 A)] w fun e w' => e = .returned (.tuple #[.agg #[.int .u8 (P 0), .int .u8 (P 1), .int .u8 (P 2), .int .u8 (P 3), .int .u8 (P 4), .int .u8 (P 5), .int .u8 (P 6), .int .u8 (P 7), .int .u8 (P 8), .int .u8 (P 9), .int .u8 (P 10), .int .u8 (P 11), .int .u8 (A 0), .int .u8 (A 1), .int .u8 (A 2), .int .u8 (A 3)], .bool true]) ∧ Below w.heap.size w w' := by
  have c15 := fun w => right_t P 96 w h
  have c21 := fun w => places_96 P w
  clear h
  have i0 : ∀ w, (Instr.index 45 (.agg #[.int .i64 12, .int .i64 13, .int .i64 14, .int .i64 15]) (.int .i64 0)).run Try.prog w = .ok (.int .i64 12) w := fun _ => by kernel_rfl
  have i1 : ∀ w, (Instr.index 45 (.agg #[.int .i64 12, .int .i64 13, .int .i64 14, .int .i64 15]) (.int .i64 1)).run Try.prog w = .ok (.int .i64 13) w := fun _ => by kernel_rfl
  have i2 : ∀ w, (Instr.index 45 (.agg #[.int .i64 12, .int .i64 13, .int .i64 14, .int .i64 15]) (.int .i64 2)).run Try.prog w = .ok (.int .i64 14) w := fun _ => by kernel_rfl
  have i3 : ∀ w, (Instr.index 45 (.agg #[.int .i64 12, .int .i64 13, .int .i64 14, .int .i64 15]) (.int .i64 3)).run Try.prog w = .ok (.int .i64 15) w := fun _ => by kernel_rfl
  go_enter Try.func10, Try.ntmps10
  go_wp2_with (first
    | (go_at_call 15; (with_reducible refine (c15 _).mono ?_); rintro e w1 ⟨rfl, hb1⟩; have HB : Below w.heap.size w w1 := ((((Below.refl _ _).alloc (Nat.le_refl _) _).alloc (by simp) _).alloc (by simp; omega) _).trans (hb1.mono (by simp; omega)); have B0 := (((Blk.new w 26 _ rfl).alloc _).alloc _).below hb1; have B1 := ((Blk.new _ 31 _ (by simp : _ = w.heap.size + 1)).alloc _).below hb1; have B2 := (Blk.new _ 23 _ (by simp : _ = w.heap.size + 1 + 1)).below hb1; have s2 := B2.lt; clear hb1 c15)
    | (go_at_call 21; (with_reducible refine (c21 _).mono ?_); rintro e w4 ⟨rfl, hb2⟩; have B1 := B1.below hb2; have B2 := B2.below hb2; have B3 := B3.below hb2; have HB := HB.trans (hb2.mono (by omega)); clear B0 hb2)
    | (refine wpList_load_row rfl 26 (.tmp 2) rfl _ rfl 26 _ (0, 0) _ (((Blk.new w 26 _ rfl).alloc _).alloc _) Try.underlying26 rfl (by kernel_rfl) ?_)
    | (refine ld_part B0 rfl 23 (.tmp 13) rfl 0 rfl (a16 P) _ Try.underlying23 rfl (by kernel_rfl) (by kernel_rfl) ?_)
    | (refine ld_part B0 rfl 26 (.tmp 2) rfl 0 rfl #[.int .u8 (P 0), .int .u8 (P 1), .int .u8 (P 2), .int .u8 (P 3), .int .u8 (P 4), .int .u8 (P 5), .int .u8 (P 6), .int .u8 (P 7), .int .u8 (P 8), .int .u8 (P 9), .int .u8 (P 10), .int .u8 (P 11), .int .u8 (P 12), .int .u8 (P 13), .int .u8 (P 14), .int .u8 (P 15), .int .i64 96] _ Try.underlying26 rfl (by kernel_rfl) (by kernel_rfl) ?_)
    | (refine st_row (Blk.new w1 23 _ rfl) rfl 23 (.tmp 6) _ rfl rfl _ rfl (by kernel_rfl) rfl (by kernel_rfl) ?_; intro w3 B3 O3; have s3 := O3.size; rw [World.size_alloc] at s3; have B0 := (B0.alloc _).oth O3 (by omega); have B1 := (B1.alloc _).oth O3 (by omega); have B2 := (B2.alloc _).oth O3 (by omega); have HB := oth_below (HB.alloc HB.size _) O3 (by omega))
    )
  refine wp_loop_rounds 5 ?_
  rw [rounds_succ]
  go_wp2_with (first
    | (refine ld_cell B1 rfl 5 _ rfl _ rfl _ .u8 Try.underlying5 rfl ?_)
    | (refine st_cell B3 rfl 5 _ _ rfl _ rfl _ rfl (by kernel_rfl) (by kernel_rfl) rfl rfl ?_; intro w5 B3' O; have B1 := B1.oth O (by omega); have B2 := B2.oth O (by omega); have HB := oth_below HB O (by omega); clear O B3; have B3 := B3'; clear B3')
    | (refine ld_part B3 rfl 23 (.tmp 6) rfl 0 rfl #[.int .u8 (P 0), .int .u8 (P 1), .int .u8 (P 2), .int .u8 (P 3), .int .u8 (P 4), .int .u8 (P 5), .int .u8 (P 6), .int .u8 (P 7), .int .u8 (P 8), .int .u8 (P 9), .int .u8 (P 10), .int .u8 (P 11), .int .u8 (A 0), .int .u8 (A 1), .int .u8 (A 2), .int .u8 (A 3)] _ Try.underlying23 rfl (by kernel_rfl) (by kernel_rfl) ?_)
    | (refine st_row B2 rfl 23 (.tmp 4) _ rfl rfl _ rfl (by kernel_rfl) rfl (by kernel_rfl) ?_; clear B2; intro w9 B2 O; have HB := oth_below HB O (by omega)))
  rw [rounds_succ]
  go_wp2_with (first
    | (refine ld_cell B1 rfl 5 _ rfl _ rfl _ .u8 Try.underlying5 rfl ?_)
    | (refine st_cell B3 rfl 5 _ _ rfl _ rfl _ rfl (by kernel_rfl) (by kernel_rfl) rfl rfl ?_; intro w6 B3' O; have B1 := B1.oth O (by omega); have B2 := B2.oth O (by omega); have HB := oth_below HB O (by omega); clear O B3; have B3 := B3'; clear B3')
    | (refine ld_part B3 rfl 23 (.tmp 6) rfl 0 rfl #[.int .u8 (P 0), .int .u8 (P 1), .int .u8 (P 2), .int .u8 (P 3), .int .u8 (P 4), .int .u8 (P 5), .int .u8 (P 6), .int .u8 (P 7), .int .u8 (P 8), .int .u8 (P 9), .int .u8 (P 10), .int .u8 (P 11), .int .u8 (A 0), .int .u8 (A 1), .int .u8 (A 2), .int .u8 (A 3)] _ Try.underlying23 rfl (by kernel_rfl) (by kernel_rfl) ?_)
    | (refine st_row B2 rfl 23 (.tmp 4) _ rfl rfl _ rfl (by kernel_rfl) rfl (by kernel_rfl) ?_; clear B2; intro w9 B2 O; have HB := oth_below HB O (by omega)))
  rw [rounds_succ]
  go_wp2_with (first
    | (refine ld_cell B1 rfl 5 _ rfl _ rfl _ .u8 Try.underlying5 rfl ?_)
    | (refine st_cell B3 rfl 5 _ _ rfl _ rfl _ rfl (by kernel_rfl) (by kernel_rfl) rfl rfl ?_; intro w7 B3' O; have B1 := B1.oth O (by omega); have B2 := B2.oth O (by omega); have HB := oth_below HB O (by omega); clear O B3; have B3 := B3'; clear B3')
    | (refine ld_part B3 rfl 23 (.tmp 6) rfl 0 rfl #[.int .u8 (P 0), .int .u8 (P 1), .int .u8 (P 2), .int .u8 (P 3), .int .u8 (P 4), .int .u8 (P 5), .int .u8 (P 6), .int .u8 (P 7), .int .u8 (P 8), .int .u8 (P 9), .int .u8 (P 10), .int .u8 (P 11), .int .u8 (A 0), .int .u8 (A 1), .int .u8 (A 2), .int .u8 (A 3)] _ Try.underlying23 rfl (by kernel_rfl) (by kernel_rfl) ?_)
    | (refine st_row B2 rfl 23 (.tmp 4) _ rfl rfl _ rfl (by kernel_rfl) rfl (by kernel_rfl) ?_; clear B2; intro w9 B2 O; have HB := oth_below HB O (by omega)))
  rw [rounds_succ]
  go_wp2_with (first
    | (refine ld_cell B1 rfl 5 _ rfl _ rfl _ .u8 Try.underlying5 rfl ?_)
    | (refine st_cell B3 rfl 5 _ _ rfl _ rfl _ rfl (by kernel_rfl) (by kernel_rfl) rfl rfl ?_; intro w8 B3' O; have B1 := B1.oth O (by omega); have B2 := B2.oth O (by omega); have HB := oth_below HB O (by omega); clear O B3; have B3 := B3'; clear B3')
    | (refine ld_part B3 rfl 23 (.tmp 6) rfl 0 rfl #[.int .u8 (P 0), .int .u8 (P 1), .int .u8 (P 2), .int .u8 (P 3), .int .u8 (P 4), .int .u8 (P 5), .int .u8 (P 6), .int .u8 (P 7), .int .u8 (P 8), .int .u8 (P 9), .int .u8 (P 10), .int .u8 (P 11), .int .u8 (A 0), .int .u8 (A 1), .int .u8 (A 2), .int .u8 (A 3)] _ Try.underlying23 rfl (by kernel_rfl) (by kernel_rfl) ?_)
    | (refine st_row B2 rfl 23 (.tmp 4) _ rfl rfl _ rfl (by kernel_rfl) rfl (by kernel_rfl) ?_; clear B2; intro w9 B2 O; have HB := oth_below HB O (by omega)))
  rw [rounds_succ]
  go_wp2_with (first
    | (refine ld_cell B1 rfl 5 _ rfl _ rfl _ .u8 Try.underlying5 rfl ?_)
    | (refine st_cell B3 rfl 5 _ _ rfl _ rfl _ rfl (by kernel_rfl) (by kernel_rfl) rfl rfl ?_; intro w9 B3' O; have B1 := B1.oth O (by omega); have B2 := B2.oth O (by omega); have HB := oth_below HB O (by omega); clear O B3; have B3 := B3'; clear B3')
    | (refine ld_part B3 rfl 23 (.tmp 6) rfl 0 rfl #[.int .u8 (P 0), .int .u8 (P 1), .int .u8 (P 2), .int .u8 (P 3), .int .u8 (P 4), .int .u8 (P 5), .int .u8 (P 6), .int .u8 (P 7), .int .u8 (P 8), .int .u8 (P 9), .int .u8 (P 10), .int .u8 (P 11), .int .u8 (A 0), .int .u8 (A 1), .int .u8 (A 2), .int .u8 (A 3)] _ Try.underlying23 rfl (by kernel_rfl) (by kernel_rfl) ?_)
    | (refine st_row B2 rfl 23 (.tmp 4) _ rfl rfl _ rfl (by kernel_rfl) rfl (by kernel_rfl) ?_; clear B2; intro w9 B2 O; have HB := oth_below HB O (by omega)))
  refine bodyPost_ret (v := .tuple #[.agg #[.int .u8 (P 0), .int .u8 (P 1), .int .u8 (P 2), .int .u8 (P 3), .int .u8 (P 4), .int .u8 (P 5), .int .u8 (P 6), .int .u8 (P 7), .int .u8 (P 8), .int .u8 (P 9), .int .u8 (P 10), .int .u8 (P 11), .int .u8 (A 0), .int .u8 (A 1), .int .u8 (A 2), .int .u8 (A 3)], .bool true]) (results_cell_tmp rfl B2 _ rfl _ rfl Try.underlying23 rfl (by kernel_rfl)) rfl ⟨rfl, HB⟩
end Go.Proofs.Ytafonnelennlhaa
