/-
  The walk of the law EmbedOnce: it returns true, and what was there stays. Condition: the bytes are bytes.
-/
import Derived.Test.YtafonnelennlhaaH
namespace Go.Proofs.Ytafonnelennlhaa
open Go.RowKit
set_option linter.unusedSimpArgs false
set_option linter.unusedVariables false

def zr (X : Nat → Int) (lo hi j : Nat) : Int := if lo ≤ j ∧ j < hi then 0 else X j
theorem zr_bytes {X : Nat → Int} (bx : Bytes 16 X) (lo hi : Nat) : Bytes 16 (zr X lo hi) := by
  intro j hj
  unfold zr
  split
  · omega
  · exact bx j hj
theorem zr_inside {P X : Nat → Int} {n : Int} (h : InsideP P X n) {lo : Nat} (hl : (n / 8).toNat ≤ lo) (hi : Nat) : InsideP P (zr X lo hi) n := by
  refine ⟨h.1, fun j hj => ?_⟩
  unfold zr
  rw [if_neg (by omega)]
  exact h.2 j hj
/-- What is taken out and put in again is the address with noughts behind. -/
theorem once_eq {P X : Nat → Int} {n : Int} (h : InsideP P X n) (h8 : X 8 = 0) {lo : Nat} (hlo : ∀ k, k < 4 → at_ n k < lo) (hc : ∀ j, j < lo → (n / 8).toNat ≤ j → j = 8 ∨ ∃ k, k < 4 ∧ j = at_ n k) (hl : (n / 8).toNat ≤ lo) :
    EqTo (emb P (ext X n) n) (zr X lo 16) 16 := by
  intro j hj
  by_cases hk : ∃ k, k < 4 ∧ j = at_ n k
  · obtain ⟨k, hk, rfl⟩ := hk
    have e1 : emb P (ext X n) n (at_ n k) = ext (emb P (ext X n) n) n k := rfl
    rw [e1, ext_emb P (ext X n) n k hk]
    unfold zr ext
    rw [if_neg (by have := hlo k hk; omega)]
  · rw [emb_other P _ n j (fun k hk2 e => hk ⟨k, hk2, e⟩)]
    unfold zr
    by_cases hj2 : j < (n / 8).toNat
    · rw [if_neg (by omega)]; exact h.2 j hj2
    · rw [h.1.2 j hj (.inl (by omega))]
      by_cases hj3 : j < lo
      · rcases hc j hj3 (by omega) with rfl | h5
        · rw [if_neg (by omega), h8]
        · exact absurd h5 hk
      · rw [if_pos ⟨by omega, hj⟩]
theorem once_16 {X Y : Nat → Int} (h : EqTo Y (zr X 16 16) 16) : EqTo Y X 16 := by
  intro j hj
  rw [h j hj]; unfold zr; rw [if_neg (by omega)]

set_option maxRecDepth 100000 in
set_option maxHeartbeats 4000000 in
theorem once_n (P X : Nat → Int) (n : Int) (w : World) (bp : Bytes 16 P) (bx : Bytes 16 X) (h : ¬ (InsideP P X n ∧ X 8 = 0)) : Calls Try.prog 7 #[net P n, .agg (a16 X)] w fun e w' => e = .returned (.bool true) ∧ Below w.heap.size w w' := by
  have c12 := fun w => extract_n bp bx h w
  have he : ∀ w, (Op.equalIn 10000 31 (.agg (a4 zero)) (.agg #[.int .u8 0, .int .u8 0, .int .u8 0, .int .u8 0])).run Try.prog w = .ok true w := fun w => eq4 (X := zero) (r := true) (by simp [EqTo]) w
  clear bp bx h
  go_enter Try.func7, Try.ntmps7
  go_upto_region 1 with fail
  have M0 := Mem.two w 26 23 #[.int .u8 (P 0), .int .u8 (P 1), .int .u8 (P 2), .int .u8 (P 3), .int .u8 (P 4), .int .u8 (P 5), .int .u8 (P 6), .int .u8 (P 7), .int .u8 (P 8), .int .u8 (P 9), .int .u8 (P 10), .int .u8 (P 11), .int .u8 (P 12), .int .u8 (P 13), .int .u8 (P 14), .int .u8 (P 15), .int .i64 n] (a16 X)
  refine wp_region_lit ?_
  refine l_call rfl (some 11) rfl (awake_any _) (by kernel_rfl) (fun s1 hb1 => ?_)
  have M1 := M0.call hb1
  clear hb1 M0
  try simp only [Act.put, List.setIfInBounds_toArray, List.set_cons_zero, List.set_cons_succ]
  refine lv rfl (some 12) rfl (v := ?_) ?_ ?_
  rotate_left
  · go_simp; try with_reducible rfl
  try simp only [Act.put, List.setIfInBounds_toArray, List.set_cons_zero, List.set_cons_succ]
  refine wpList_nil ?_
  go_upto_region 3 with fail
  refine wp_region_lit ?_
  refine ly M1 (some 14) rfl (yi_row 0 26 (.tmp 2) rfl rfl rfl rfl Try.underlying26 rfl (by kernel_rfl)) ?_
  try simp only [Act.put, List.setIfInBounds_toArray, List.set_cons_zero, List.set_cons_succ]
  refine ly M1 (some 15) rfl (yi_row 1 23 (.tmp 3) rfl rfl rfl rfl Try.underlying23 rfl (by kernel_rfl)) ?_
  try simp only [Act.put, List.setIfInBounds_toArray, List.set_cons_zero, List.set_cons_succ]
  refine l_call rfl (some 16) rfl (c12 _) (by kernel_rfl) (fun s2 hb2 => ?_)
  have M2 := M1.call hb2
  clear hb2 M1
  try simp only [Act.put, List.setIfInBounds_toArray, List.set_cons_zero, List.set_cons_succ]
  refine lv rfl (some 13) rfl (v := ?_) ?_ ?_
  rotate_left
  · go_simp; try with_reducible rfl
  try simp only [Act.put, List.setIfInBounds_toArray, List.set_cons_zero, List.set_cons_succ]
  refine lv rfl (some 17) rfl (v := ?_) ?_ ?_
  rotate_left
  · go_simp; try with_reducible rfl
  try simp only [Act.put, List.setIfInBounds_toArray, List.set_cons_zero, List.set_cons_succ]
  refine lv rfl (some 18) rfl (v := ?_) ?_ ?_
  rotate_left
  · go_simp; try with_reducible rfl
  try simp only [Act.put, List.setIfInBounds_toArray, List.set_cons_zero, List.set_cons_succ]
  refine l_alloc rfl (some 5) rfl #[.int .u8 0, .int .u8 0, .int .u8 0, .int .u8 0] 31 (by kernel_rfl) ?_
  have M3 := M2.new rfl 31 #[.int .u8 0, .int .u8 0, .int .u8 0, .int .u8 0]
  clear M2
  try simp only [List.cons_append, List.nil_append, List.set_cons_zero, List.set_cons_succ] at M3
  try simp only [Act.put, List.setIfInBounds_toArray, List.set_cons_zero, List.set_cons_succ]
  refine l_store M3 2 rfl 31 (.tmp 5) _ rfl rfl rfl rfl _ rfl (by kernel_rfl) (by rfl) (by kernel_rfl) _ rfl (fun s4 M4 => ?_)
  clear M3
  try simp only [List.cons_append, List.nil_append, List.set_cons_zero, List.set_cons_succ] at M4
  try simp only [Act.put, List.setIfInBounds_toArray, List.set_cons_zero, List.set_cons_succ]
  refine lv rfl (some 6) rfl (v := ?_) ?_ ?_
  rotate_left
  · go_simp; try with_reducible rfl
  try simp only [Act.put, List.setIfInBounds_toArray, List.set_cons_zero, List.set_cons_succ]
  refine wpList_nil ?_
  go_upto_region 4 with fail
  refine wp_region_lit ?_
  refine lv rfl (some 19) rfl (v := ?_) ?_ ?_
  rotate_left
  · go_simp; try with_reducible rfl
  try simp only [Act.put, List.setIfInBounds_toArray, List.set_cons_zero, List.set_cons_succ]
  refine lv rfl (some 20) rfl (v := ?_) ?_ ?_
  rotate_left
  · go_simp; try with_reducible rfl
  try simp only [Act.put, List.setIfInBounds_toArray, List.set_cons_zero, List.set_cons_succ]
  refine wpList_nil ?_
  go_upto_region 5 with fail
  refine wp_region_lit ?_
  refine ly M4 (some 21) rfl (yi_row 2 31 (.tmp 5) rfl rfl rfl rfl Try.underlying31 rfl (by kernel_rfl)) ?_
  try simp only [Act.put, List.setIfInBounds_toArray, List.set_cons_zero, List.set_cons_succ]
  refine lv rfl (some 22) rfl (v := ?_) ?_ ?_
  rotate_left
  · go_simp; try with_reducible rfl
  try simp only [Act.put, List.setIfInBounds_toArray, List.set_cons_zero, List.set_cons_succ]
  refine lv rfl (some 23) rfl (v := ?_) ?_ ?_
  rotate_left
  · go_simp; try with_reducible rfl
  try simp only [Act.put, List.setIfInBounds_toArray, List.set_cons_zero, List.set_cons_succ]
  refine lv rfl (some 4) rfl (v := ?_) ?_ ?_
  rotate_left
  · go_simp; try with_reducible rfl
  try simp only [Act.put, List.setIfInBounds_toArray, List.set_cons_zero, List.set_cons_succ]
  refine wpList_nil ?_
  go_wp2_with fail
  go_ret
  exact ⟨rfl, M4.below⟩
set_option maxRecDepth 100000 in
set_option maxHeartbeats 4000000 in
theorem once_32 (P X : Nat → Int) (w : World) (bp : Bytes 16 P) (bx : Bytes 16 X) (h : InsideP P X 32) (h8 : X 8 = 0) : Calls Try.prog 7 #[net P 32, .agg (a16 X)] w fun e w' => e = .returned (.bool true) ∧ Below w.heap.size w w' := by
  have c12 := fun w => extract_t bp bx h h8 w
  have c10 := fun w => embed_t h.1 (ext X 32) w
  have c19 := fun w => inside_t bp (zr_bytes bx 8 16) (zr_inside h (lo := 8) (by decide) 16) w
  have he : ∀ w, (Op.equalIn 10000 23 (.agg (a16 (emb P (ext X 32) 32))) (.agg (a16 (zr X 8 16)))).run Try.prog w = .ok true w := fun w => eq16 (r := true) (by
    simp only [true_iff]
    refine once_eq h h8 ?_ ?_ (by decide)
    · intro k hk; match k, hk with | 0, _ => decide | 1, _ => decide | 2, _ => decide | 3, _ => decide | k + 4, h => exact absurd h (by omega)
    · intro j hj hj2
      have hj2 : 4 ≤ j := hj2
      rcases (by omega : j = 4 ∨ j = 5 ∨ j = 6 ∨ j = 7) with rfl | rfl | rfl | rfl
      · exact .inr ⟨0, by omega, rfl⟩
      · exact .inr ⟨1, by omega, rfl⟩
      · exact .inr ⟨2, by omega, rfl⟩
      · exact .inr ⟨3, by omega, rfl⟩) w
  clear bp bx h h8
  go_enter Try.func7, Try.ntmps7
  go_upto_region 1 with fail
  have M0 := Mem.two w 26 23 #[.int .u8 (P 0), .int .u8 (P 1), .int .u8 (P 2), .int .u8 (P 3), .int .u8 (P 4), .int .u8 (P 5), .int .u8 (P 6), .int .u8 (P 7), .int .u8 (P 8), .int .u8 (P 9), .int .u8 (P 10), .int .u8 (P 11), .int .u8 (P 12), .int .u8 (P 13), .int .u8 (P 14), .int .u8 (P 15), .int .i64 32] (a16 X)
  refine wp_region_lit ?_
  refine l_call rfl (some 11) rfl (awake_any _) (by kernel_rfl) (fun s1 hb1 => ?_)
  have M1 := M0.call hb1
  clear hb1 M0
  try simp only [Act.put, List.setIfInBounds_toArray, List.set_cons_zero, List.set_cons_succ]
  refine lv rfl (some 12) rfl (v := ?_) ?_ ?_
  rotate_left
  · go_simp; (try simp only [IntKind.wrap_i64, Int.reduceAdd, Int.reduceSub, Int.reduceMod, Int.reducePow, Int.reduceNeg]); try with_reducible rfl
  try simp only [Act.put, List.setIfInBounds_toArray, List.set_cons_zero, List.set_cons_succ]
  refine wpList_nil ?_
  go_upto_region 3 with fail
  refine wp_region_lit ?_
  refine ly M1 (some 14) rfl (yi_row 0 26 (.tmp 2) rfl rfl rfl rfl Try.underlying26 rfl (by kernel_rfl)) ?_
  try simp only [Act.put, List.setIfInBounds_toArray, List.set_cons_zero, List.set_cons_succ]
  refine ly M1 (some 15) rfl (yi_row 1 23 (.tmp 3) rfl rfl rfl rfl Try.underlying23 rfl (by kernel_rfl)) ?_
  try simp only [Act.put, List.setIfInBounds_toArray, List.set_cons_zero, List.set_cons_succ]
  refine l_call rfl (some 16) rfl (c12 _) (by kernel_rfl) (fun s2 hb2 => ?_)
  have M2 := M1.call hb2
  clear hb2 M1
  try simp only [Act.put, List.setIfInBounds_toArray, List.set_cons_zero, List.set_cons_succ]
  refine lv rfl (some 13) rfl (v := ?_) ?_ ?_
  rotate_left
  · go_simp; (try simp only [IntKind.wrap_i64, Int.reduceAdd, Int.reduceSub, Int.reduceMod, Int.reducePow, Int.reduceNeg]); try with_reducible rfl
  try simp only [Act.put, List.setIfInBounds_toArray, List.set_cons_zero, List.set_cons_succ]
  refine lv rfl (some 17) rfl (v := ?_) ?_ ?_
  rotate_left
  · go_simp; (try simp only [IntKind.wrap_i64, Int.reduceAdd, Int.reduceSub, Int.reduceMod, Int.reducePow, Int.reduceNeg]); try with_reducible rfl
  try simp only [Act.put, List.setIfInBounds_toArray, List.set_cons_zero, List.set_cons_succ]
  refine lv rfl (some 18) rfl (v := ?_) ?_ ?_
  rotate_left
  · go_simp; (try simp only [IntKind.wrap_i64, Int.reduceAdd, Int.reduceSub, Int.reduceMod, Int.reducePow, Int.reduceNeg]); try with_reducible rfl
  try simp only [Act.put, List.setIfInBounds_toArray, List.set_cons_zero, List.set_cons_succ]
  refine l_alloc rfl (some 5) rfl #[.int .u8 0, .int .u8 0, .int .u8 0, .int .u8 0] 31 (by kernel_rfl) ?_
  have M3 := M2.new rfl 31 #[.int .u8 0, .int .u8 0, .int .u8 0, .int .u8 0]
  clear M2
  try simp only [List.cons_append, List.nil_append, List.set_cons_zero, List.set_cons_succ] at M3
  try simp only [Act.put, List.setIfInBounds_toArray, List.set_cons_zero, List.set_cons_succ]
  refine l_store M3 2 rfl 31 (.tmp 5) _ rfl rfl rfl rfl _ rfl (by kernel_rfl) (by rfl) (by kernel_rfl) _ rfl (fun s4 M4 => ?_)
  clear M3
  try simp only [List.cons_append, List.nil_append, List.set_cons_zero, List.set_cons_succ] at M4
  try simp only [Act.put, List.setIfInBounds_toArray, List.set_cons_zero, List.set_cons_succ]
  refine lv rfl (some 6) rfl (v := ?_) ?_ ?_
  rotate_left
  · go_simp; (try simp only [IntKind.wrap_i64, Int.reduceAdd, Int.reduceSub, Int.reduceMod, Int.reducePow, Int.reduceNeg]); try with_reducible rfl
  try simp only [Act.put, List.setIfInBounds_toArray, List.set_cons_zero, List.set_cons_succ]
  refine wpList_nil ?_
  go_upto_region 4 with fail
  refine wp_region_lit ?_
  refine lv rfl (some 19) rfl (v := ?_) ?_ ?_
  rotate_left
  · go_simp; (try simp only [IntKind.wrap_i64, Int.reduceAdd, Int.reduceSub, Int.reduceMod, Int.reducePow, Int.reduceNeg]); try with_reducible rfl
  try simp only [Act.put, List.setIfInBounds_toArray, List.set_cons_zero, List.set_cons_succ]
  refine lv rfl (some 20) rfl (v := ?_) ?_ ?_
  rotate_left
  · go_simp; (try simp only [IntKind.wrap_i64, Int.reduceAdd, Int.reduceSub, Int.reduceMod, Int.reducePow, Int.reduceNeg]); try with_reducible rfl
  try simp only [Act.put, List.setIfInBounds_toArray, List.set_cons_zero, List.set_cons_succ]
  refine wpList_nil ?_
  go_upto_region 6 with fail
  refine wp_region_lit ?_
  refine ly M4 (some 25) rfl (yi_row 0 26 (.tmp 2) rfl rfl rfl rfl Try.underlying26 rfl (by kernel_rfl)) ?_
  try simp only [Act.put, List.setIfInBounds_toArray, List.set_cons_zero, List.set_cons_succ]
  refine ly M4 (some 26) rfl (yi_row 2 31 (.tmp 5) rfl rfl rfl rfl Try.underlying31 rfl (by kernel_rfl)) ?_
  try simp only [Act.put, List.setIfInBounds_toArray, List.set_cons_zero, List.set_cons_succ]
  refine l_call rfl (some 27) rfl (c10 _) (by kernel_rfl) (fun s5 hb5 => ?_)
  have M5 := M4.call hb5
  clear hb5 M4
  try simp only [Act.put, List.setIfInBounds_toArray, List.set_cons_zero, List.set_cons_succ]
  refine lv rfl (some 24) rfl (v := ?_) ?_ ?_
  rotate_left
  · go_simp; (try simp only [IntKind.wrap_i64, Int.reduceAdd, Int.reduceSub, Int.reduceMod, Int.reducePow, Int.reduceNeg]); try with_reducible rfl
  try simp only [Act.put, List.setIfInBounds_toArray, List.set_cons_zero, List.set_cons_succ]
  refine lv rfl (some 28) rfl (v := ?_) ?_ ?_
  rotate_left
  · go_simp; (try simp only [IntKind.wrap_i64, Int.reduceAdd, Int.reduceSub, Int.reduceMod, Int.reducePow, Int.reduceNeg]); try with_reducible rfl
  try simp only [Act.put, List.setIfInBounds_toArray, List.set_cons_zero, List.set_cons_succ]
  refine lv rfl (some 29) rfl (v := ?_) ?_ ?_
  rotate_left
  · go_simp; (try simp only [IntKind.wrap_i64, Int.reduceAdd, Int.reduceSub, Int.reduceMod, Int.reducePow, Int.reduceNeg]); try with_reducible rfl
  try simp only [Act.put, List.setIfInBounds_toArray, List.set_cons_zero, List.set_cons_succ]
  refine l_alloc rfl (some 7) rfl #[.int .u8 0, .int .u8 0, .int .u8 0, .int .u8 0, .int .u8 0, .int .u8 0, .int .u8 0, .int .u8 0, .int .u8 0, .int .u8 0, .int .u8 0, .int .u8 0, .int .u8 0, .int .u8 0, .int .u8 0, .int .u8 0] 23 (by kernel_rfl) ?_
  have M6 := M5.new rfl 23 #[.int .u8 0, .int .u8 0, .int .u8 0, .int .u8 0, .int .u8 0, .int .u8 0, .int .u8 0, .int .u8 0, .int .u8 0, .int .u8 0, .int .u8 0, .int .u8 0, .int .u8 0, .int .u8 0, .int .u8 0, .int .u8 0]
  clear M5
  try simp only [List.cons_append, List.nil_append, List.set_cons_zero, List.set_cons_succ] at M6
  try simp only [Act.put, List.setIfInBounds_toArray, List.set_cons_zero, List.set_cons_succ]
  refine l_store M6 3 rfl 23 (.tmp 7) _ rfl rfl rfl rfl _ rfl (by kernel_rfl) (by rfl) (by kernel_rfl) _ rfl (fun s7 M7 => ?_)
  clear M6
  try simp only [List.cons_append, List.nil_append, List.set_cons_zero, List.set_cons_succ] at M7
  try simp only [Act.put, List.setIfInBounds_toArray, List.set_cons_zero, List.set_cons_succ]
  refine lv rfl (some 8) rfl (v := ?_) ?_ ?_
  rotate_left
  · go_simp; (try simp only [IntKind.wrap_i64, Int.reduceAdd, Int.reduceSub, Int.reduceMod, Int.reducePow, Int.reduceNeg]); try with_reducible rfl
  try simp only [Act.put, List.setIfInBounds_toArray, List.set_cons_zero, List.set_cons_succ]
  refine wpList_nil ?_
  go_upto_region 7 with fail
  refine wp_region_lit ?_
  refine lv rfl (some 30) rfl (v := ?_) ?_ ?_
  rotate_left
  · go_simp; (try simp only [IntKind.wrap_i64, Int.reduceAdd, Int.reduceSub, Int.reduceMod, Int.reducePow, Int.reduceNeg]); try with_reducible rfl
  try simp only [Act.put, List.setIfInBounds_toArray, List.set_cons_zero, List.set_cons_succ]
  refine ly M7 (some 31) rfl (yi_cell 0 3 (.tmp 30) rfl rfl rfl _ rfl _ Try.underlying3 rfl) ?_
  try simp only [Act.put, List.setIfInBounds_toArray, List.set_cons_zero, List.set_cons_succ]
  refine lv rfl (some 32) rfl (v := ?_) ?_ ?_
  rotate_left
  · go_simp; (try simp only [IntKind.wrap_i64, Int.reduceAdd, Int.reduceSub, Int.reduceMod, Int.reducePow, Int.reduceNeg]); try with_reducible rfl
  try simp only [Act.put, List.setIfInBounds_toArray, List.set_cons_zero, List.set_cons_succ]
  refine lv rfl (some 33) rfl (v := ?_) ?_ ?_
  rotate_left
  · go_simp; (try simp only [IntKind.wrap_i64, Int.reduceAdd, Int.reduceSub, Int.reduceMod, Int.reducePow, Int.reduceNeg]); try with_reducible rfl
  try simp only [Act.put, List.setIfInBounds_toArray, List.set_cons_zero, List.set_cons_succ]
  refine lv rfl (some 9) rfl (v := ?_) ?_ ?_
  rotate_left
  · go_simp; (try simp only [IntKind.wrap_i64, Int.reduceAdd, Int.reduceSub, Int.reduceMod, Int.reducePow, Int.reduceNeg]); try with_reducible rfl
  try simp only [Act.put, List.setIfInBounds_toArray, List.set_cons_zero, List.set_cons_succ]
  refine wpList_nil ?_
  go_upto_region 8 with fail
  refine wp_region_lit ?_
  refine lv rfl (some 34) rfl (v := ?_) ?_ ?_
  rotate_left
  · go_simp; (try simp only [IntKind.wrap_i64, Int.reduceAdd, Int.reduceSub, Int.reduceMod, Int.reducePow, Int.reduceNeg]); try with_reducible rfl
  try simp only [Act.put, List.setIfInBounds_toArray, List.set_cons_zero, List.set_cons_succ]
  refine ly M7 (some 35) rfl (yi_cell 0 3 (.tmp 34) rfl rfl rfl _ rfl _ Try.underlying3 rfl) ?_
  try simp only [Act.put, List.setIfInBounds_toArray, List.set_cons_zero, List.set_cons_succ]
  refine lv rfl (some 36) rfl (v := ?_) ?_ ?_
  rotate_left
  · go_simp; (try simp only [IntKind.wrap_i64, Int.reduceAdd, Int.reduceSub, Int.reduceMod, Int.reducePow, Int.reduceNeg]); try with_reducible rfl
  try simp only [Act.put, List.setIfInBounds_toArray, List.set_cons_zero, List.set_cons_succ]
  refine lv rfl (some 37) rfl (v := ?_) ?_ ?_
  rotate_left
  · go_simp; (try simp only [IntKind.wrap_i64, Int.reduceAdd, Int.reduceSub, Int.reduceMod, Int.reducePow, Int.reduceNeg]); try with_reducible rfl
  try simp only [Act.put, List.setIfInBounds_toArray, List.set_cons_zero, List.set_cons_succ]
  refine lv rfl (some 38) rfl (v := ?_) ?_ ?_
  rotate_left
  · go_simp; (try simp only [IntKind.wrap_i64, Int.reduceAdd, Int.reduceSub, Int.reduceMod, Int.reducePow, Int.reduceNeg]); try with_reducible rfl
  try simp only [Act.put, List.setIfInBounds_toArray, List.set_cons_zero, List.set_cons_succ]
  refine ly M7 (some 39) rfl (yi_cell 0 3 (.tmp 38) rfl rfl rfl _ rfl _ Try.underlying3 rfl) ?_
  try simp only [Act.put, List.setIfInBounds_toArray, List.set_cons_zero, List.set_cons_succ]
  refine lv rfl (some 40) rfl (v := ?_) ?_ ?_
  rotate_left
  · go_simp; (try simp only [IntKind.wrap_i64, Int.reduceAdd, Int.reduceSub, Int.reduceMod, Int.reducePow, Int.reduceNeg]); try with_reducible rfl
  try simp only [Act.put, List.setIfInBounds_toArray, List.set_cons_zero, List.set_cons_succ]
  refine lv rfl (some 41) rfl (v := ?_) ?_ ?_
  rotate_left
  · go_simp; (try simp only [IntKind.wrap_i64, Int.reduceAdd, Int.reduceSub, Int.reduceMod, Int.reducePow, Int.reduceNeg]); try with_reducible rfl
  try simp only [Act.put, List.setIfInBounds_toArray, List.set_cons_zero, List.set_cons_succ]
  refine wpList_nil ?_
  go_upto_region 10 with fail
  refine wp_region_lit ?_
  refine lv rfl (some 44) rfl (v := ?_) ?_ ?_
  rotate_left
  · go_simp; (try simp only [IntKind.wrap_i64, Int.reduceAdd, Int.reduceSub, Int.reduceMod, Int.reducePow, Int.reduceNeg]); try with_reducible rfl
  try simp only [Act.put, List.setIfInBounds_toArray, List.set_cons_zero, List.set_cons_succ]
  refine lv rfl (some 10) rfl (v := ?_) ?_ ?_
  rotate_left
  · go_simp; (try simp only [IntKind.wrap_i64, Int.reduceAdd, Int.reduceSub, Int.reduceMod, Int.reducePow, Int.reduceNeg]); try with_reducible rfl
  try simp only [Act.put, List.setIfInBounds_toArray, List.set_cons_zero, List.set_cons_succ]
  refine wpList_nil ?_
  go_wp2_with fail
  refine wp_loop_rounds 9 ?_
  rw [rounds_succ]
  go_upto_region 11 with fail
  refine wp_region_lit ?_
  refine lv rfl (some 45) rfl (v := ?_) ?_ ?_
  rotate_left
  · go_simp; (try simp only [IntKind.wrap_i64, Int.reduceAdd, Int.reduceSub, Int.reduceMod, Int.reducePow, Int.reduceNeg]); try with_reducible rfl
  try simp only [Act.put, List.setIfInBounds_toArray, List.set_cons_zero, List.set_cons_succ]
  refine lv rfl (some 46) rfl (v := ?_) ?_ ?_
  rotate_left
  · go_simp; (try simp only [IntKind.wrap_i64, Int.reduceAdd, Int.reduceSub, Int.reduceMod, Int.reducePow, Int.reduceNeg]); try with_reducible rfl
  try simp only [Act.put, List.setIfInBounds_toArray, List.set_cons_zero, List.set_cons_succ]
  refine wpList_nil ?_
  go_upto_region 13 with fail
  refine wp_region_lit ?_
  refine lv rfl (some 49) rfl (v := ?_) ?_ ?_
  rotate_left
  · go_simp; (try simp only [IntKind.wrap_i64, Int.reduceAdd, Int.reduceSub, Int.reduceMod, Int.reducePow, Int.reduceNeg]); try with_reducible rfl
  try simp only [Act.put, List.setIfInBounds_toArray, List.set_cons_zero, List.set_cons_succ]
  refine lv rfl (some 50) rfl (v := ?_) ?_ ?_
  rotate_left
  · go_simp; (try simp only [IntKind.wrap_i64, Int.reduceAdd, Int.reduceSub, Int.reduceMod, Int.reducePow, Int.reduceNeg]); try with_reducible rfl
  try simp only [Act.put, List.setIfInBounds_toArray, List.set_cons_zero, List.set_cons_succ]
  refine l_cell M7 1 rfl 5 (.tmp 50) _ rfl rfl rfl _ rfl _ rfl (by kernel_rfl) (by kernel_rfl) rfl rfl (a16 (zr X 8 9)) (by kernel_rfl) _ rfl (fun s8 M8 => ?_)
  clear M7
  try simp only [List.cons_append, List.nil_append, List.set_cons_zero, List.set_cons_succ] at M8
  try simp only [Act.put, List.setIfInBounds_toArray, List.set_cons_zero, List.set_cons_succ]
  refine wpList_nil ?_
  go_upto_region 12 with fail
  refine wp_region_lit ?_
  refine lv rfl (some 47) rfl (v := ?_) ?_ ?_
  rotate_left
  · go_simp; (try simp only [IntKind.wrap_i64, Int.reduceAdd, Int.reduceSub, Int.reduceMod, Int.reducePow, Int.reduceNeg]); try with_reducible rfl
  try simp only [Act.put, List.setIfInBounds_toArray, List.set_cons_zero, List.set_cons_succ]
  refine lv rfl (some 48) rfl (v := ?_) ?_ ?_
  rotate_left
  · go_simp; (try simp only [IntKind.wrap_i64, Int.reduceAdd, Int.reduceSub, Int.reduceMod, Int.reducePow, Int.reduceNeg]); try with_reducible rfl
  try simp only [Act.put, List.setIfInBounds_toArray, List.set_cons_zero, List.set_cons_succ]
  refine lv rfl (some 10) rfl (v := ?_) ?_ ?_
  rotate_left
  · go_simp; (try simp only [IntKind.wrap_i64, Int.reduceAdd, Int.reduceSub, Int.reduceMod, Int.reducePow, Int.reduceNeg]); try with_reducible rfl
  try simp only [Act.put, List.setIfInBounds_toArray, List.set_cons_zero, List.set_cons_succ]
  refine wpList_nil ?_
  go_wp2_with fail
  rw [rounds_succ]
  go_upto_region 11 with fail
  refine wp_region_lit ?_
  refine lv rfl (some 45) rfl (v := ?_) ?_ ?_
  rotate_left
  · go_simp; (try simp only [IntKind.wrap_i64, Int.reduceAdd, Int.reduceSub, Int.reduceMod, Int.reducePow, Int.reduceNeg]); try with_reducible rfl
  try simp only [Act.put, List.setIfInBounds_toArray, List.set_cons_zero, List.set_cons_succ]
  refine lv rfl (some 46) rfl (v := ?_) ?_ ?_
  rotate_left
  · go_simp; (try simp only [IntKind.wrap_i64, Int.reduceAdd, Int.reduceSub, Int.reduceMod, Int.reducePow, Int.reduceNeg]); try with_reducible rfl
  try simp only [Act.put, List.setIfInBounds_toArray, List.set_cons_zero, List.set_cons_succ]
  refine wpList_nil ?_
  go_upto_region 13 with fail
  refine wp_region_lit ?_
  refine lv rfl (some 49) rfl (v := ?_) ?_ ?_
  rotate_left
  · go_simp; (try simp only [IntKind.wrap_i64, Int.reduceAdd, Int.reduceSub, Int.reduceMod, Int.reducePow, Int.reduceNeg]); try with_reducible rfl
  try simp only [Act.put, List.setIfInBounds_toArray, List.set_cons_zero, List.set_cons_succ]
  refine lv rfl (some 50) rfl (v := ?_) ?_ ?_
  rotate_left
  · go_simp; (try simp only [IntKind.wrap_i64, Int.reduceAdd, Int.reduceSub, Int.reduceMod, Int.reducePow, Int.reduceNeg]); try with_reducible rfl
  try simp only [Act.put, List.setIfInBounds_toArray, List.set_cons_zero, List.set_cons_succ]
  refine l_cell M8 1 rfl 5 (.tmp 50) _ rfl rfl rfl _ rfl _ rfl (by kernel_rfl) (by kernel_rfl) rfl rfl (a16 (zr X 8 10)) (by kernel_rfl) _ rfl (fun s9 M9 => ?_)
  clear M8
  try simp only [List.cons_append, List.nil_append, List.set_cons_zero, List.set_cons_succ] at M9
  try simp only [Act.put, List.setIfInBounds_toArray, List.set_cons_zero, List.set_cons_succ]
  refine wpList_nil ?_
  go_upto_region 12 with fail
  refine wp_region_lit ?_
  refine lv rfl (some 47) rfl (v := ?_) ?_ ?_
  rotate_left
  · go_simp; (try simp only [IntKind.wrap_i64, Int.reduceAdd, Int.reduceSub, Int.reduceMod, Int.reducePow, Int.reduceNeg]); try with_reducible rfl
  try simp only [Act.put, List.setIfInBounds_toArray, List.set_cons_zero, List.set_cons_succ]
  refine lv rfl (some 48) rfl (v := ?_) ?_ ?_
  rotate_left
  · go_simp; (try simp only [IntKind.wrap_i64, Int.reduceAdd, Int.reduceSub, Int.reduceMod, Int.reducePow, Int.reduceNeg]); try with_reducible rfl
  try simp only [Act.put, List.setIfInBounds_toArray, List.set_cons_zero, List.set_cons_succ]
  refine lv rfl (some 10) rfl (v := ?_) ?_ ?_
  rotate_left
  · go_simp; (try simp only [IntKind.wrap_i64, Int.reduceAdd, Int.reduceSub, Int.reduceMod, Int.reducePow, Int.reduceNeg]); try with_reducible rfl
  try simp only [Act.put, List.setIfInBounds_toArray, List.set_cons_zero, List.set_cons_succ]
  refine wpList_nil ?_
  go_wp2_with fail
  rw [rounds_succ]
  go_upto_region 11 with fail
  refine wp_region_lit ?_
  refine lv rfl (some 45) rfl (v := ?_) ?_ ?_
  rotate_left
  · go_simp; (try simp only [IntKind.wrap_i64, Int.reduceAdd, Int.reduceSub, Int.reduceMod, Int.reducePow, Int.reduceNeg]); try with_reducible rfl
  try simp only [Act.put, List.setIfInBounds_toArray, List.set_cons_zero, List.set_cons_succ]
  refine lv rfl (some 46) rfl (v := ?_) ?_ ?_
  rotate_left
  · go_simp; (try simp only [IntKind.wrap_i64, Int.reduceAdd, Int.reduceSub, Int.reduceMod, Int.reducePow, Int.reduceNeg]); try with_reducible rfl
  try simp only [Act.put, List.setIfInBounds_toArray, List.set_cons_zero, List.set_cons_succ]
  refine wpList_nil ?_
  go_upto_region 13 with fail
  refine wp_region_lit ?_
  refine lv rfl (some 49) rfl (v := ?_) ?_ ?_
  rotate_left
  · go_simp; (try simp only [IntKind.wrap_i64, Int.reduceAdd, Int.reduceSub, Int.reduceMod, Int.reducePow, Int.reduceNeg]); try with_reducible rfl
  try simp only [Act.put, List.setIfInBounds_toArray, List.set_cons_zero, List.set_cons_succ]
  refine lv rfl (some 50) rfl (v := ?_) ?_ ?_
  rotate_left
  · go_simp; (try simp only [IntKind.wrap_i64, Int.reduceAdd, Int.reduceSub, Int.reduceMod, Int.reducePow, Int.reduceNeg]); try with_reducible rfl
  try simp only [Act.put, List.setIfInBounds_toArray, List.set_cons_zero, List.set_cons_succ]
  refine l_cell M9 1 rfl 5 (.tmp 50) _ rfl rfl rfl _ rfl _ rfl (by kernel_rfl) (by kernel_rfl) rfl rfl (a16 (zr X 8 11)) (by kernel_rfl) _ rfl (fun s10 M10 => ?_)
  clear M9
  try simp only [List.cons_append, List.nil_append, List.set_cons_zero, List.set_cons_succ] at M10
  try simp only [Act.put, List.setIfInBounds_toArray, List.set_cons_zero, List.set_cons_succ]
  refine wpList_nil ?_
  go_upto_region 12 with fail
  refine wp_region_lit ?_
  refine lv rfl (some 47) rfl (v := ?_) ?_ ?_
  rotate_left
  · go_simp; (try simp only [IntKind.wrap_i64, Int.reduceAdd, Int.reduceSub, Int.reduceMod, Int.reducePow, Int.reduceNeg]); try with_reducible rfl
  try simp only [Act.put, List.setIfInBounds_toArray, List.set_cons_zero, List.set_cons_succ]
  refine lv rfl (some 48) rfl (v := ?_) ?_ ?_
  rotate_left
  · go_simp; (try simp only [IntKind.wrap_i64, Int.reduceAdd, Int.reduceSub, Int.reduceMod, Int.reducePow, Int.reduceNeg]); try with_reducible rfl
  try simp only [Act.put, List.setIfInBounds_toArray, List.set_cons_zero, List.set_cons_succ]
  refine lv rfl (some 10) rfl (v := ?_) ?_ ?_
  rotate_left
  · go_simp; (try simp only [IntKind.wrap_i64, Int.reduceAdd, Int.reduceSub, Int.reduceMod, Int.reducePow, Int.reduceNeg]); try with_reducible rfl
  try simp only [Act.put, List.setIfInBounds_toArray, List.set_cons_zero, List.set_cons_succ]
  refine wpList_nil ?_
  go_wp2_with fail
  rw [rounds_succ]
  go_upto_region 11 with fail
  refine wp_region_lit ?_
  refine lv rfl (some 45) rfl (v := ?_) ?_ ?_
  rotate_left
  · go_simp; (try simp only [IntKind.wrap_i64, Int.reduceAdd, Int.reduceSub, Int.reduceMod, Int.reducePow, Int.reduceNeg]); try with_reducible rfl
  try simp only [Act.put, List.setIfInBounds_toArray, List.set_cons_zero, List.set_cons_succ]
  refine lv rfl (some 46) rfl (v := ?_) ?_ ?_
  rotate_left
  · go_simp; (try simp only [IntKind.wrap_i64, Int.reduceAdd, Int.reduceSub, Int.reduceMod, Int.reducePow, Int.reduceNeg]); try with_reducible rfl
  try simp only [Act.put, List.setIfInBounds_toArray, List.set_cons_zero, List.set_cons_succ]
  refine wpList_nil ?_
  go_upto_region 13 with fail
  refine wp_region_lit ?_
  refine lv rfl (some 49) rfl (v := ?_) ?_ ?_
  rotate_left
  · go_simp; (try simp only [IntKind.wrap_i64, Int.reduceAdd, Int.reduceSub, Int.reduceMod, Int.reducePow, Int.reduceNeg]); try with_reducible rfl
  try simp only [Act.put, List.setIfInBounds_toArray, List.set_cons_zero, List.set_cons_succ]
  refine lv rfl (some 50) rfl (v := ?_) ?_ ?_
  rotate_left
  · go_simp; (try simp only [IntKind.wrap_i64, Int.reduceAdd, Int.reduceSub, Int.reduceMod, Int.reducePow, Int.reduceNeg]); try with_reducible rfl
  try simp only [Act.put, List.setIfInBounds_toArray, List.set_cons_zero, List.set_cons_succ]
  refine l_cell M10 1 rfl 5 (.tmp 50) _ rfl rfl rfl _ rfl _ rfl (by kernel_rfl) (by kernel_rfl) rfl rfl (a16 (zr X 8 12)) (by kernel_rfl) _ rfl (fun s11 M11 => ?_)
  clear M10
  try simp only [List.cons_append, List.nil_append, List.set_cons_zero, List.set_cons_succ] at M11
  try simp only [Act.put, List.setIfInBounds_toArray, List.set_cons_zero, List.set_cons_succ]
  refine wpList_nil ?_
  go_upto_region 12 with fail
  refine wp_region_lit ?_
  refine lv rfl (some 47) rfl (v := ?_) ?_ ?_
  rotate_left
  · go_simp; (try simp only [IntKind.wrap_i64, Int.reduceAdd, Int.reduceSub, Int.reduceMod, Int.reducePow, Int.reduceNeg]); try with_reducible rfl
  try simp only [Act.put, List.setIfInBounds_toArray, List.set_cons_zero, List.set_cons_succ]
  refine lv rfl (some 48) rfl (v := ?_) ?_ ?_
  rotate_left
  · go_simp; (try simp only [IntKind.wrap_i64, Int.reduceAdd, Int.reduceSub, Int.reduceMod, Int.reducePow, Int.reduceNeg]); try with_reducible rfl
  try simp only [Act.put, List.setIfInBounds_toArray, List.set_cons_zero, List.set_cons_succ]
  refine lv rfl (some 10) rfl (v := ?_) ?_ ?_
  rotate_left
  · go_simp; (try simp only [IntKind.wrap_i64, Int.reduceAdd, Int.reduceSub, Int.reduceMod, Int.reducePow, Int.reduceNeg]); try with_reducible rfl
  try simp only [Act.put, List.setIfInBounds_toArray, List.set_cons_zero, List.set_cons_succ]
  refine wpList_nil ?_
  go_wp2_with fail
  rw [rounds_succ]
  go_upto_region 11 with fail
  refine wp_region_lit ?_
  refine lv rfl (some 45) rfl (v := ?_) ?_ ?_
  rotate_left
  · go_simp; (try simp only [IntKind.wrap_i64, Int.reduceAdd, Int.reduceSub, Int.reduceMod, Int.reducePow, Int.reduceNeg]); try with_reducible rfl
  try simp only [Act.put, List.setIfInBounds_toArray, List.set_cons_zero, List.set_cons_succ]
  refine lv rfl (some 46) rfl (v := ?_) ?_ ?_
  rotate_left
  · go_simp; (try simp only [IntKind.wrap_i64, Int.reduceAdd, Int.reduceSub, Int.reduceMod, Int.reducePow, Int.reduceNeg]); try with_reducible rfl
  try simp only [Act.put, List.setIfInBounds_toArray, List.set_cons_zero, List.set_cons_succ]
  refine wpList_nil ?_
  go_upto_region 13 with fail
  refine wp_region_lit ?_
  refine lv rfl (some 49) rfl (v := ?_) ?_ ?_
  rotate_left
  · go_simp; (try simp only [IntKind.wrap_i64, Int.reduceAdd, Int.reduceSub, Int.reduceMod, Int.reducePow, Int.reduceNeg]); try with_reducible rfl
  try simp only [Act.put, List.setIfInBounds_toArray, List.set_cons_zero, List.set_cons_succ]
  refine lv rfl (some 50) rfl (v := ?_) ?_ ?_
  rotate_left
  · go_simp; (try simp only [IntKind.wrap_i64, Int.reduceAdd, Int.reduceSub, Int.reduceMod, Int.reducePow, Int.reduceNeg]); try with_reducible rfl
  try simp only [Act.put, List.setIfInBounds_toArray, List.set_cons_zero, List.set_cons_succ]
  refine l_cell M11 1 rfl 5 (.tmp 50) _ rfl rfl rfl _ rfl _ rfl (by kernel_rfl) (by kernel_rfl) rfl rfl (a16 (zr X 8 13)) (by kernel_rfl) _ rfl (fun s12 M12 => ?_)
  clear M11
  try simp only [List.cons_append, List.nil_append, List.set_cons_zero, List.set_cons_succ] at M12
  try simp only [Act.put, List.setIfInBounds_toArray, List.set_cons_zero, List.set_cons_succ]
  refine wpList_nil ?_
  go_upto_region 12 with fail
  refine wp_region_lit ?_
  refine lv rfl (some 47) rfl (v := ?_) ?_ ?_
  rotate_left
  · go_simp; (try simp only [IntKind.wrap_i64, Int.reduceAdd, Int.reduceSub, Int.reduceMod, Int.reducePow, Int.reduceNeg]); try with_reducible rfl
  try simp only [Act.put, List.setIfInBounds_toArray, List.set_cons_zero, List.set_cons_succ]
  refine lv rfl (some 48) rfl (v := ?_) ?_ ?_
  rotate_left
  · go_simp; (try simp only [IntKind.wrap_i64, Int.reduceAdd, Int.reduceSub, Int.reduceMod, Int.reducePow, Int.reduceNeg]); try with_reducible rfl
  try simp only [Act.put, List.setIfInBounds_toArray, List.set_cons_zero, List.set_cons_succ]
  refine lv rfl (some 10) rfl (v := ?_) ?_ ?_
  rotate_left
  · go_simp; (try simp only [IntKind.wrap_i64, Int.reduceAdd, Int.reduceSub, Int.reduceMod, Int.reducePow, Int.reduceNeg]); try with_reducible rfl
  try simp only [Act.put, List.setIfInBounds_toArray, List.set_cons_zero, List.set_cons_succ]
  refine wpList_nil ?_
  go_wp2_with fail
  rw [rounds_succ]
  go_upto_region 11 with fail
  refine wp_region_lit ?_
  refine lv rfl (some 45) rfl (v := ?_) ?_ ?_
  rotate_left
  · go_simp; (try simp only [IntKind.wrap_i64, Int.reduceAdd, Int.reduceSub, Int.reduceMod, Int.reducePow, Int.reduceNeg]); try with_reducible rfl
  try simp only [Act.put, List.setIfInBounds_toArray, List.set_cons_zero, List.set_cons_succ]
  refine lv rfl (some 46) rfl (v := ?_) ?_ ?_
  rotate_left
  · go_simp; (try simp only [IntKind.wrap_i64, Int.reduceAdd, Int.reduceSub, Int.reduceMod, Int.reducePow, Int.reduceNeg]); try with_reducible rfl
  try simp only [Act.put, List.setIfInBounds_toArray, List.set_cons_zero, List.set_cons_succ]
  refine wpList_nil ?_
  go_upto_region 13 with fail
  refine wp_region_lit ?_
  refine lv rfl (some 49) rfl (v := ?_) ?_ ?_
  rotate_left
  · go_simp; (try simp only [IntKind.wrap_i64, Int.reduceAdd, Int.reduceSub, Int.reduceMod, Int.reducePow, Int.reduceNeg]); try with_reducible rfl
  try simp only [Act.put, List.setIfInBounds_toArray, List.set_cons_zero, List.set_cons_succ]
  refine lv rfl (some 50) rfl (v := ?_) ?_ ?_
  rotate_left
  · go_simp; (try simp only [IntKind.wrap_i64, Int.reduceAdd, Int.reduceSub, Int.reduceMod, Int.reducePow, Int.reduceNeg]); try with_reducible rfl
  try simp only [Act.put, List.setIfInBounds_toArray, List.set_cons_zero, List.set_cons_succ]
  refine l_cell M12 1 rfl 5 (.tmp 50) _ rfl rfl rfl _ rfl _ rfl (by kernel_rfl) (by kernel_rfl) rfl rfl (a16 (zr X 8 14)) (by kernel_rfl) _ rfl (fun s13 M13 => ?_)
  clear M12
  try simp only [List.cons_append, List.nil_append, List.set_cons_zero, List.set_cons_succ] at M13
  try simp only [Act.put, List.setIfInBounds_toArray, List.set_cons_zero, List.set_cons_succ]
  refine wpList_nil ?_
  go_upto_region 12 with fail
  refine wp_region_lit ?_
  refine lv rfl (some 47) rfl (v := ?_) ?_ ?_
  rotate_left
  · go_simp; (try simp only [IntKind.wrap_i64, Int.reduceAdd, Int.reduceSub, Int.reduceMod, Int.reducePow, Int.reduceNeg]); try with_reducible rfl
  try simp only [Act.put, List.setIfInBounds_toArray, List.set_cons_zero, List.set_cons_succ]
  refine lv rfl (some 48) rfl (v := ?_) ?_ ?_
  rotate_left
  · go_simp; (try simp only [IntKind.wrap_i64, Int.reduceAdd, Int.reduceSub, Int.reduceMod, Int.reducePow, Int.reduceNeg]); try with_reducible rfl
  try simp only [Act.put, List.setIfInBounds_toArray, List.set_cons_zero, List.set_cons_succ]
  refine lv rfl (some 10) rfl (v := ?_) ?_ ?_
  rotate_left
  · go_simp; (try simp only [IntKind.wrap_i64, Int.reduceAdd, Int.reduceSub, Int.reduceMod, Int.reducePow, Int.reduceNeg]); try with_reducible rfl
  try simp only [Act.put, List.setIfInBounds_toArray, List.set_cons_zero, List.set_cons_succ]
  refine wpList_nil ?_
  go_wp2_with fail
  rw [rounds_succ]
  go_upto_region 11 with fail
  refine wp_region_lit ?_
  refine lv rfl (some 45) rfl (v := ?_) ?_ ?_
  rotate_left
  · go_simp; (try simp only [IntKind.wrap_i64, Int.reduceAdd, Int.reduceSub, Int.reduceMod, Int.reducePow, Int.reduceNeg]); try with_reducible rfl
  try simp only [Act.put, List.setIfInBounds_toArray, List.set_cons_zero, List.set_cons_succ]
  refine lv rfl (some 46) rfl (v := ?_) ?_ ?_
  rotate_left
  · go_simp; (try simp only [IntKind.wrap_i64, Int.reduceAdd, Int.reduceSub, Int.reduceMod, Int.reducePow, Int.reduceNeg]); try with_reducible rfl
  try simp only [Act.put, List.setIfInBounds_toArray, List.set_cons_zero, List.set_cons_succ]
  refine wpList_nil ?_
  go_upto_region 13 with fail
  refine wp_region_lit ?_
  refine lv rfl (some 49) rfl (v := ?_) ?_ ?_
  rotate_left
  · go_simp; (try simp only [IntKind.wrap_i64, Int.reduceAdd, Int.reduceSub, Int.reduceMod, Int.reducePow, Int.reduceNeg]); try with_reducible rfl
  try simp only [Act.put, List.setIfInBounds_toArray, List.set_cons_zero, List.set_cons_succ]
  refine lv rfl (some 50) rfl (v := ?_) ?_ ?_
  rotate_left
  · go_simp; (try simp only [IntKind.wrap_i64, Int.reduceAdd, Int.reduceSub, Int.reduceMod, Int.reducePow, Int.reduceNeg]); try with_reducible rfl
  try simp only [Act.put, List.setIfInBounds_toArray, List.set_cons_zero, List.set_cons_succ]
  refine l_cell M13 1 rfl 5 (.tmp 50) _ rfl rfl rfl _ rfl _ rfl (by kernel_rfl) (by kernel_rfl) rfl rfl (a16 (zr X 8 15)) (by kernel_rfl) _ rfl (fun s14 M14 => ?_)
  clear M13
  try simp only [List.cons_append, List.nil_append, List.set_cons_zero, List.set_cons_succ] at M14
  try simp only [Act.put, List.setIfInBounds_toArray, List.set_cons_zero, List.set_cons_succ]
  refine wpList_nil ?_
  go_upto_region 12 with fail
  refine wp_region_lit ?_
  refine lv rfl (some 47) rfl (v := ?_) ?_ ?_
  rotate_left
  · go_simp; (try simp only [IntKind.wrap_i64, Int.reduceAdd, Int.reduceSub, Int.reduceMod, Int.reducePow, Int.reduceNeg]); try with_reducible rfl
  try simp only [Act.put, List.setIfInBounds_toArray, List.set_cons_zero, List.set_cons_succ]
  refine lv rfl (some 48) rfl (v := ?_) ?_ ?_
  rotate_left
  · go_simp; (try simp only [IntKind.wrap_i64, Int.reduceAdd, Int.reduceSub, Int.reduceMod, Int.reducePow, Int.reduceNeg]); try with_reducible rfl
  try simp only [Act.put, List.setIfInBounds_toArray, List.set_cons_zero, List.set_cons_succ]
  refine lv rfl (some 10) rfl (v := ?_) ?_ ?_
  rotate_left
  · go_simp; (try simp only [IntKind.wrap_i64, Int.reduceAdd, Int.reduceSub, Int.reduceMod, Int.reducePow, Int.reduceNeg]); try with_reducible rfl
  try simp only [Act.put, List.setIfInBounds_toArray, List.set_cons_zero, List.set_cons_succ]
  refine wpList_nil ?_
  go_wp2_with fail
  rw [rounds_succ]
  go_upto_region 11 with fail
  refine wp_region_lit ?_
  refine lv rfl (some 45) rfl (v := ?_) ?_ ?_
  rotate_left
  · go_simp; (try simp only [IntKind.wrap_i64, Int.reduceAdd, Int.reduceSub, Int.reduceMod, Int.reducePow, Int.reduceNeg]); try with_reducible rfl
  try simp only [Act.put, List.setIfInBounds_toArray, List.set_cons_zero, List.set_cons_succ]
  refine lv rfl (some 46) rfl (v := ?_) ?_ ?_
  rotate_left
  · go_simp; (try simp only [IntKind.wrap_i64, Int.reduceAdd, Int.reduceSub, Int.reduceMod, Int.reducePow, Int.reduceNeg]); try with_reducible rfl
  try simp only [Act.put, List.setIfInBounds_toArray, List.set_cons_zero, List.set_cons_succ]
  refine wpList_nil ?_
  go_upto_region 13 with fail
  refine wp_region_lit ?_
  refine lv rfl (some 49) rfl (v := ?_) ?_ ?_
  rotate_left
  · go_simp; (try simp only [IntKind.wrap_i64, Int.reduceAdd, Int.reduceSub, Int.reduceMod, Int.reducePow, Int.reduceNeg]); try with_reducible rfl
  try simp only [Act.put, List.setIfInBounds_toArray, List.set_cons_zero, List.set_cons_succ]
  refine lv rfl (some 50) rfl (v := ?_) ?_ ?_
  rotate_left
  · go_simp; (try simp only [IntKind.wrap_i64, Int.reduceAdd, Int.reduceSub, Int.reduceMod, Int.reducePow, Int.reduceNeg]); try with_reducible rfl
  try simp only [Act.put, List.setIfInBounds_toArray, List.set_cons_zero, List.set_cons_succ]
  refine l_cell M14 1 rfl 5 (.tmp 50) _ rfl rfl rfl _ rfl _ rfl (by kernel_rfl) (by kernel_rfl) rfl rfl (a16 (zr X 8 16)) (by kernel_rfl) _ rfl (fun s15 M15 => ?_)
  clear M14
  try simp only [List.cons_append, List.nil_append, List.set_cons_zero, List.set_cons_succ] at M15
  try simp only [Act.put, List.setIfInBounds_toArray, List.set_cons_zero, List.set_cons_succ]
  refine wpList_nil ?_
  go_upto_region 12 with fail
  refine wp_region_lit ?_
  refine lv rfl (some 47) rfl (v := ?_) ?_ ?_
  rotate_left
  · go_simp; (try simp only [IntKind.wrap_i64, Int.reduceAdd, Int.reduceSub, Int.reduceMod, Int.reducePow, Int.reduceNeg]); try with_reducible rfl
  try simp only [Act.put, List.setIfInBounds_toArray, List.set_cons_zero, List.set_cons_succ]
  refine lv rfl (some 48) rfl (v := ?_) ?_ ?_
  rotate_left
  · go_simp; (try simp only [IntKind.wrap_i64, Int.reduceAdd, Int.reduceSub, Int.reduceMod, Int.reducePow, Int.reduceNeg]); try with_reducible rfl
  try simp only [Act.put, List.setIfInBounds_toArray, List.set_cons_zero, List.set_cons_succ]
  refine lv rfl (some 10) rfl (v := ?_) ?_ ?_
  rotate_left
  · go_simp; (try simp only [IntKind.wrap_i64, Int.reduceAdd, Int.reduceSub, Int.reduceMod, Int.reducePow, Int.reduceNeg]); try with_reducible rfl
  try simp only [Act.put, List.setIfInBounds_toArray, List.set_cons_zero, List.set_cons_succ]
  refine wpList_nil ?_
  go_wp2_with fail
  rw [rounds_succ]
  go_upto_region 11 with fail
  refine wp_region_lit ?_
  refine lv rfl (some 45) rfl (v := ?_) ?_ ?_
  rotate_left
  · go_simp; (try simp only [IntKind.wrap_i64, Int.reduceAdd, Int.reduceSub, Int.reduceMod, Int.reducePow, Int.reduceNeg]); try with_reducible rfl
  try simp only [Act.put, List.setIfInBounds_toArray, List.set_cons_zero, List.set_cons_succ]
  refine lv rfl (some 46) rfl (v := ?_) ?_ ?_
  rotate_left
  · go_simp; (try simp only [IntKind.wrap_i64, Int.reduceAdd, Int.reduceSub, Int.reduceMod, Int.reducePow, Int.reduceNeg]); try with_reducible rfl
  try simp only [Act.put, List.setIfInBounds_toArray, List.set_cons_zero, List.set_cons_succ]
  refine wpList_nil ?_
  go_upto_region 14 with fail
  refine wp_region_lit ?_
  refine lv rfl (some 51) rfl (v := ?_) ?_ ?_
  rotate_left
  · go_simp; (try simp only [IntKind.wrap_i64, Int.reduceAdd, Int.reduceSub, Int.reduceMod, Int.reducePow, Int.reduceNeg]); try with_reducible rfl
  try simp only [Act.put, List.setIfInBounds_toArray, List.set_cons_zero, List.set_cons_succ]
  refine lv rfl (some 52) rfl (v := ?_) ?_ ?_
  rotate_left
  · go_simp; (try simp only [IntKind.wrap_i64, Int.reduceAdd, Int.reduceSub, Int.reduceMod, Int.reducePow, Int.reduceNeg]); try with_reducible rfl
  try simp only [Act.put, List.setIfInBounds_toArray, List.set_cons_zero, List.set_cons_succ]
  refine ly M15 (some 53) rfl (yi_row 0 26 (.tmp 2) rfl rfl rfl rfl Try.underlying26 rfl (by kernel_rfl)) ?_
  try simp only [Act.put, List.setIfInBounds_toArray, List.set_cons_zero, List.set_cons_succ]
  refine ly M15 (some 54) rfl (yi_row 1 23 (.tmp 3) rfl rfl rfl rfl Try.underlying23 rfl (by kernel_rfl)) ?_
  try simp only [Act.put, List.setIfInBounds_toArray, List.set_cons_zero, List.set_cons_succ]
  refine l_call rfl (some 55) rfl (c19 _) (by kernel_rfl) (fun s16 hb16 => ?_)
  have M16 := M15.call hb16
  clear hb16 M15
  try simp only [Act.put, List.setIfInBounds_toArray, List.set_cons_zero, List.set_cons_succ]
  refine lv rfl (some 56) rfl (v := ?_) ?_ ?_
  rotate_left
  · go_simp; (try simp only [IntKind.wrap_i64, Int.reduceAdd, Int.reduceSub, Int.reduceMod, Int.reducePow, Int.reduceNeg]); try with_reducible rfl
  try simp only [Act.put, List.setIfInBounds_toArray, List.set_cons_zero, List.set_cons_succ]
  refine lv rfl (some 57) rfl (v := ?_) ?_ ?_
  rotate_left
  · go_simp; (try simp only [IntKind.wrap_i64, Int.reduceAdd, Int.reduceSub, Int.reduceMod, Int.reducePow, Int.reduceNeg]); try with_reducible rfl
  try simp only [Act.put, List.setIfInBounds_toArray, List.set_cons_zero, List.set_cons_succ]
  refine ly M16 (some 58) rfl (yi_row 3 23 (.tmp 7) rfl rfl rfl rfl Try.underlying23 rfl (by kernel_rfl)) ?_
  try simp only [Act.put, List.setIfInBounds_toArray, List.set_cons_zero, List.set_cons_succ]
  refine ly M16 (some 59) rfl (yi_row 1 23 (.tmp 3) rfl rfl rfl rfl Try.underlying23 rfl (by kernel_rfl)) ?_
  try simp only [Act.put, List.setIfInBounds_toArray, List.set_cons_zero, List.set_cons_succ]
  refine lv rfl (some 60) rfl (v := ?_) ?_ ?_
  rotate_left
  · go_simp; (try simp only [IntKind.wrap_i64, Int.reduceAdd, Int.reduceSub, Int.reduceMod, Int.reducePow, Int.reduceNeg]); try with_reducible rfl
  try simp only [Act.put, List.setIfInBounds_toArray, List.set_cons_zero, List.set_cons_succ]
  refine lv rfl (some 61) rfl (v := ?_) ?_ ?_
  rotate_left
  · go_simp; (try simp only [IntKind.wrap_i64, Int.reduceAdd, Int.reduceSub, Int.reduceMod, Int.reducePow, Int.reduceNeg]); try with_reducible rfl
  try simp only [Act.put, List.setIfInBounds_toArray, List.set_cons_zero, List.set_cons_succ]
  refine lv rfl (some 4) rfl (v := ?_) ?_ ?_
  rotate_left
  · go_simp; (try simp only [IntKind.wrap_i64, Int.reduceAdd, Int.reduceSub, Int.reduceMod, Int.reducePow, Int.reduceNeg]); try with_reducible rfl
  try simp only [Act.put, List.setIfInBounds_toArray, List.set_cons_zero, List.set_cons_succ]
  refine wpList_nil ?_
  go_wp2_with fail
  go_ret
  exact ⟨rfl, M16.below⟩
set_option maxRecDepth 100000 in
set_option maxHeartbeats 4000000 in
theorem once_40 (P X : Nat → Int) (w : World) (bp : Bytes 16 P) (bx : Bytes 16 X) (h : InsideP P X 40) (h8 : X 8 = 0) : Calls Try.prog 7 #[net P 40, .agg (a16 X)] w fun e w' => e = .returned (.bool true) ∧ Below w.heap.size w w' := by
  have c12 := fun w => extract_t bp bx h h8 w
  have c10 := fun w => embed_t h.1 (ext X 40) w
  have c19 := fun w => inside_t bp (zr_bytes bx 10 16) (zr_inside h (lo := 10) (by decide) 16) w
  have he : ∀ w, (Op.equalIn 10000 23 (.agg (a16 (emb P (ext X 40) 40))) (.agg (a16 (zr X 10 16)))).run Try.prog w = .ok true w := fun w => eq16 (r := true) (by
    simp only [true_iff]
    refine once_eq h h8 ?_ ?_ (by decide)
    · intro k hk; match k, hk with | 0, _ => decide | 1, _ => decide | 2, _ => decide | 3, _ => decide | k + 4, h => exact absurd h (by omega)
    · intro j hj hj2
      have hj2 : 5 ≤ j := hj2
      rcases (by omega : j = 5 ∨ j = 6 ∨ j = 7 ∨ j = 8 ∨ j = 9) with rfl | rfl | rfl | rfl | rfl
      · exact .inr ⟨0, by omega, rfl⟩
      · exact .inr ⟨1, by omega, rfl⟩
      · exact .inr ⟨2, by omega, rfl⟩
      · exact .inl rfl
      · exact .inr ⟨3, by omega, rfl⟩) w
  clear bp bx h h8
  go_enter Try.func7, Try.ntmps7
  go_upto_region 1 with fail
  have M0 := Mem.two w 26 23 #[.int .u8 (P 0), .int .u8 (P 1), .int .u8 (P 2), .int .u8 (P 3), .int .u8 (P 4), .int .u8 (P 5), .int .u8 (P 6), .int .u8 (P 7), .int .u8 (P 8), .int .u8 (P 9), .int .u8 (P 10), .int .u8 (P 11), .int .u8 (P 12), .int .u8 (P 13), .int .u8 (P 14), .int .u8 (P 15), .int .i64 40] (a16 X)
  refine wp_region_lit ?_
  refine l_call rfl (some 11) rfl (awake_any _) (by kernel_rfl) (fun s1 hb1 => ?_)
  have M1 := M0.call hb1
  clear hb1 M0
  try simp only [Act.put, List.setIfInBounds_toArray, List.set_cons_zero, List.set_cons_succ]
  refine lv rfl (some 12) rfl (v := ?_) ?_ ?_
  rotate_left
  · go_simp; (try simp only [IntKind.wrap_i64, Int.reduceAdd, Int.reduceSub, Int.reduceMod, Int.reducePow, Int.reduceNeg]); try with_reducible rfl
  try simp only [Act.put, List.setIfInBounds_toArray, List.set_cons_zero, List.set_cons_succ]
  refine wpList_nil ?_
  go_upto_region 3 with fail
  refine wp_region_lit ?_
  refine ly M1 (some 14) rfl (yi_row 0 26 (.tmp 2) rfl rfl rfl rfl Try.underlying26 rfl (by kernel_rfl)) ?_
  try simp only [Act.put, List.setIfInBounds_toArray, List.set_cons_zero, List.set_cons_succ]
  refine ly M1 (some 15) rfl (yi_row 1 23 (.tmp 3) rfl rfl rfl rfl Try.underlying23 rfl (by kernel_rfl)) ?_
  try simp only [Act.put, List.setIfInBounds_toArray, List.set_cons_zero, List.set_cons_succ]
  refine l_call rfl (some 16) rfl (c12 _) (by kernel_rfl) (fun s2 hb2 => ?_)
  have M2 := M1.call hb2
  clear hb2 M1
  try simp only [Act.put, List.setIfInBounds_toArray, List.set_cons_zero, List.set_cons_succ]
  refine lv rfl (some 13) rfl (v := ?_) ?_ ?_
  rotate_left
  · go_simp; (try simp only [IntKind.wrap_i64, Int.reduceAdd, Int.reduceSub, Int.reduceMod, Int.reducePow, Int.reduceNeg]); try with_reducible rfl
  try simp only [Act.put, List.setIfInBounds_toArray, List.set_cons_zero, List.set_cons_succ]
  refine lv rfl (some 17) rfl (v := ?_) ?_ ?_
  rotate_left
  · go_simp; (try simp only [IntKind.wrap_i64, Int.reduceAdd, Int.reduceSub, Int.reduceMod, Int.reducePow, Int.reduceNeg]); try with_reducible rfl
  try simp only [Act.put, List.setIfInBounds_toArray, List.set_cons_zero, List.set_cons_succ]
  refine lv rfl (some 18) rfl (v := ?_) ?_ ?_
  rotate_left
  · go_simp; (try simp only [IntKind.wrap_i64, Int.reduceAdd, Int.reduceSub, Int.reduceMod, Int.reducePow, Int.reduceNeg]); try with_reducible rfl
  try simp only [Act.put, List.setIfInBounds_toArray, List.set_cons_zero, List.set_cons_succ]
  refine l_alloc rfl (some 5) rfl #[.int .u8 0, .int .u8 0, .int .u8 0, .int .u8 0] 31 (by kernel_rfl) ?_
  have M3 := M2.new rfl 31 #[.int .u8 0, .int .u8 0, .int .u8 0, .int .u8 0]
  clear M2
  try simp only [List.cons_append, List.nil_append, List.set_cons_zero, List.set_cons_succ] at M3
  try simp only [Act.put, List.setIfInBounds_toArray, List.set_cons_zero, List.set_cons_succ]
  refine l_store M3 2 rfl 31 (.tmp 5) _ rfl rfl rfl rfl _ rfl (by kernel_rfl) (by rfl) (by kernel_rfl) _ rfl (fun s4 M4 => ?_)
  clear M3
  try simp only [List.cons_append, List.nil_append, List.set_cons_zero, List.set_cons_succ] at M4
  try simp only [Act.put, List.setIfInBounds_toArray, List.set_cons_zero, List.set_cons_succ]
  refine lv rfl (some 6) rfl (v := ?_) ?_ ?_
  rotate_left
  · go_simp; (try simp only [IntKind.wrap_i64, Int.reduceAdd, Int.reduceSub, Int.reduceMod, Int.reducePow, Int.reduceNeg]); try with_reducible rfl
  try simp only [Act.put, List.setIfInBounds_toArray, List.set_cons_zero, List.set_cons_succ]
  refine wpList_nil ?_
  go_upto_region 4 with fail
  refine wp_region_lit ?_
  refine lv rfl (some 19) rfl (v := ?_) ?_ ?_
  rotate_left
  · go_simp; (try simp only [IntKind.wrap_i64, Int.reduceAdd, Int.reduceSub, Int.reduceMod, Int.reducePow, Int.reduceNeg]); try with_reducible rfl
  try simp only [Act.put, List.setIfInBounds_toArray, List.set_cons_zero, List.set_cons_succ]
  refine lv rfl (some 20) rfl (v := ?_) ?_ ?_
  rotate_left
  · go_simp; (try simp only [IntKind.wrap_i64, Int.reduceAdd, Int.reduceSub, Int.reduceMod, Int.reducePow, Int.reduceNeg]); try with_reducible rfl
  try simp only [Act.put, List.setIfInBounds_toArray, List.set_cons_zero, List.set_cons_succ]
  refine wpList_nil ?_
  go_upto_region 6 with fail
  refine wp_region_lit ?_
  refine ly M4 (some 25) rfl (yi_row 0 26 (.tmp 2) rfl rfl rfl rfl Try.underlying26 rfl (by kernel_rfl)) ?_
  try simp only [Act.put, List.setIfInBounds_toArray, List.set_cons_zero, List.set_cons_succ]
  refine ly M4 (some 26) rfl (yi_row 2 31 (.tmp 5) rfl rfl rfl rfl Try.underlying31 rfl (by kernel_rfl)) ?_
  try simp only [Act.put, List.setIfInBounds_toArray, List.set_cons_zero, List.set_cons_succ]
  refine l_call rfl (some 27) rfl (c10 _) (by kernel_rfl) (fun s5 hb5 => ?_)
  have M5 := M4.call hb5
  clear hb5 M4
  try simp only [Act.put, List.setIfInBounds_toArray, List.set_cons_zero, List.set_cons_succ]
  refine lv rfl (some 24) rfl (v := ?_) ?_ ?_
  rotate_left
  · go_simp; (try simp only [IntKind.wrap_i64, Int.reduceAdd, Int.reduceSub, Int.reduceMod, Int.reducePow, Int.reduceNeg]); try with_reducible rfl
  try simp only [Act.put, List.setIfInBounds_toArray, List.set_cons_zero, List.set_cons_succ]
  refine lv rfl (some 28) rfl (v := ?_) ?_ ?_
  rotate_left
  · go_simp; (try simp only [IntKind.wrap_i64, Int.reduceAdd, Int.reduceSub, Int.reduceMod, Int.reducePow, Int.reduceNeg]); try with_reducible rfl
  try simp only [Act.put, List.setIfInBounds_toArray, List.set_cons_zero, List.set_cons_succ]
  refine lv rfl (some 29) rfl (v := ?_) ?_ ?_
  rotate_left
  · go_simp; (try simp only [IntKind.wrap_i64, Int.reduceAdd, Int.reduceSub, Int.reduceMod, Int.reducePow, Int.reduceNeg]); try with_reducible rfl
  try simp only [Act.put, List.setIfInBounds_toArray, List.set_cons_zero, List.set_cons_succ]
  refine l_alloc rfl (some 7) rfl #[.int .u8 0, .int .u8 0, .int .u8 0, .int .u8 0, .int .u8 0, .int .u8 0, .int .u8 0, .int .u8 0, .int .u8 0, .int .u8 0, .int .u8 0, .int .u8 0, .int .u8 0, .int .u8 0, .int .u8 0, .int .u8 0] 23 (by kernel_rfl) ?_
  have M6 := M5.new rfl 23 #[.int .u8 0, .int .u8 0, .int .u8 0, .int .u8 0, .int .u8 0, .int .u8 0, .int .u8 0, .int .u8 0, .int .u8 0, .int .u8 0, .int .u8 0, .int .u8 0, .int .u8 0, .int .u8 0, .int .u8 0, .int .u8 0]
  clear M5
  try simp only [List.cons_append, List.nil_append, List.set_cons_zero, List.set_cons_succ] at M6
  try simp only [Act.put, List.setIfInBounds_toArray, List.set_cons_zero, List.set_cons_succ]
  refine l_store M6 3 rfl 23 (.tmp 7) _ rfl rfl rfl rfl _ rfl (by kernel_rfl) (by rfl) (by kernel_rfl) _ rfl (fun s7 M7 => ?_)
  clear M6
  try simp only [List.cons_append, List.nil_append, List.set_cons_zero, List.set_cons_succ] at M7
  try simp only [Act.put, List.setIfInBounds_toArray, List.set_cons_zero, List.set_cons_succ]
  refine lv rfl (some 8) rfl (v := ?_) ?_ ?_
  rotate_left
  · go_simp; (try simp only [IntKind.wrap_i64, Int.reduceAdd, Int.reduceSub, Int.reduceMod, Int.reducePow, Int.reduceNeg]); try with_reducible rfl
  try simp only [Act.put, List.setIfInBounds_toArray, List.set_cons_zero, List.set_cons_succ]
  refine wpList_nil ?_
  go_upto_region 7 with fail
  refine wp_region_lit ?_
  refine lv rfl (some 30) rfl (v := ?_) ?_ ?_
  rotate_left
  · go_simp; (try simp only [IntKind.wrap_i64, Int.reduceAdd, Int.reduceSub, Int.reduceMod, Int.reducePow, Int.reduceNeg]); try with_reducible rfl
  try simp only [Act.put, List.setIfInBounds_toArray, List.set_cons_zero, List.set_cons_succ]
  refine ly M7 (some 31) rfl (yi_cell 0 3 (.tmp 30) rfl rfl rfl _ rfl _ Try.underlying3 rfl) ?_
  try simp only [Act.put, List.setIfInBounds_toArray, List.set_cons_zero, List.set_cons_succ]
  refine lv rfl (some 32) rfl (v := ?_) ?_ ?_
  rotate_left
  · go_simp; (try simp only [IntKind.wrap_i64, Int.reduceAdd, Int.reduceSub, Int.reduceMod, Int.reducePow, Int.reduceNeg]); try with_reducible rfl
  try simp only [Act.put, List.setIfInBounds_toArray, List.set_cons_zero, List.set_cons_succ]
  refine lv rfl (some 33) rfl (v := ?_) ?_ ?_
  rotate_left
  · go_simp; (try simp only [IntKind.wrap_i64, Int.reduceAdd, Int.reduceSub, Int.reduceMod, Int.reducePow, Int.reduceNeg]); try with_reducible rfl
  try simp only [Act.put, List.setIfInBounds_toArray, List.set_cons_zero, List.set_cons_succ]
  refine lv rfl (some 9) rfl (v := ?_) ?_ ?_
  rotate_left
  · go_simp; (try simp only [IntKind.wrap_i64, Int.reduceAdd, Int.reduceSub, Int.reduceMod, Int.reducePow, Int.reduceNeg]); try with_reducible rfl
  try simp only [Act.put, List.setIfInBounds_toArray, List.set_cons_zero, List.set_cons_succ]
  refine wpList_nil ?_
  go_upto_region 8 with fail
  refine wp_region_lit ?_
  refine lv rfl (some 34) rfl (v := ?_) ?_ ?_
  rotate_left
  · go_simp; (try simp only [IntKind.wrap_i64, Int.reduceAdd, Int.reduceSub, Int.reduceMod, Int.reducePow, Int.reduceNeg]); try with_reducible rfl
  try simp only [Act.put, List.setIfInBounds_toArray, List.set_cons_zero, List.set_cons_succ]
  refine ly M7 (some 35) rfl (yi_cell 0 3 (.tmp 34) rfl rfl rfl _ rfl _ Try.underlying3 rfl) ?_
  try simp only [Act.put, List.setIfInBounds_toArray, List.set_cons_zero, List.set_cons_succ]
  refine lv rfl (some 36) rfl (v := ?_) ?_ ?_
  rotate_left
  · go_simp; (try simp only [IntKind.wrap_i64, Int.reduceAdd, Int.reduceSub, Int.reduceMod, Int.reducePow, Int.reduceNeg]); try with_reducible rfl
  try simp only [Act.put, List.setIfInBounds_toArray, List.set_cons_zero, List.set_cons_succ]
  refine lv rfl (some 37) rfl (v := ?_) ?_ ?_
  rotate_left
  · go_simp; (try simp only [IntKind.wrap_i64, Int.reduceAdd, Int.reduceSub, Int.reduceMod, Int.reducePow, Int.reduceNeg]); try with_reducible rfl
  try simp only [Act.put, List.setIfInBounds_toArray, List.set_cons_zero, List.set_cons_succ]
  refine lv rfl (some 38) rfl (v := ?_) ?_ ?_
  rotate_left
  · go_simp; (try simp only [IntKind.wrap_i64, Int.reduceAdd, Int.reduceSub, Int.reduceMod, Int.reducePow, Int.reduceNeg]); try with_reducible rfl
  try simp only [Act.put, List.setIfInBounds_toArray, List.set_cons_zero, List.set_cons_succ]
  refine ly M7 (some 39) rfl (yi_cell 0 3 (.tmp 38) rfl rfl rfl _ rfl _ Try.underlying3 rfl) ?_
  try simp only [Act.put, List.setIfInBounds_toArray, List.set_cons_zero, List.set_cons_succ]
  refine lv rfl (some 40) rfl (v := ?_) ?_ ?_
  rotate_left
  · go_simp; (try simp only [IntKind.wrap_i64, Int.reduceAdd, Int.reduceSub, Int.reduceMod, Int.reducePow, Int.reduceNeg]); try with_reducible rfl
  try simp only [Act.put, List.setIfInBounds_toArray, List.set_cons_zero, List.set_cons_succ]
  refine lv rfl (some 41) rfl (v := ?_) ?_ ?_
  rotate_left
  · go_simp; (try simp only [IntKind.wrap_i64, Int.reduceAdd, Int.reduceSub, Int.reduceMod, Int.reducePow, Int.reduceNeg]); try with_reducible rfl
  try simp only [Act.put, List.setIfInBounds_toArray, List.set_cons_zero, List.set_cons_succ]
  refine wpList_nil ?_
  go_upto_region 9 with fail
  refine wp_region_lit ?_
  refine lv rfl (some 42) rfl (v := ?_) ?_ ?_
  rotate_left
  · go_simp; (try simp only [IntKind.wrap_i64, Int.reduceAdd, Int.reduceSub, Int.reduceMod, Int.reducePow, Int.reduceNeg]); try with_reducible rfl
  try simp only [Act.put, List.setIfInBounds_toArray, List.set_cons_zero, List.set_cons_succ]
  refine lv rfl (some 43) rfl (v := ?_) ?_ ?_
  rotate_left
  · go_simp; (try simp only [IntKind.wrap_i64, Int.reduceAdd, Int.reduceSub, Int.reduceMod, Int.reducePow, Int.reduceNeg]); try with_reducible rfl
  try simp only [Act.put, List.setIfInBounds_toArray, List.set_cons_zero, List.set_cons_succ]
  refine lv rfl (some 9) rfl (v := ?_) ?_ ?_
  rotate_left
  · go_simp; (try simp only [IntKind.wrap_i64, Int.reduceAdd, Int.reduceSub, Int.reduceMod, Int.reducePow, Int.reduceNeg]); try with_reducible rfl
  try simp only [Act.put, List.setIfInBounds_toArray, List.set_cons_zero, List.set_cons_succ]
  refine wpList_nil ?_
  go_upto_region 10 with fail
  refine wp_region_lit ?_
  refine lv rfl (some 44) rfl (v := ?_) ?_ ?_
  rotate_left
  · go_simp; (try simp only [IntKind.wrap_i64, Int.reduceAdd, Int.reduceSub, Int.reduceMod, Int.reducePow, Int.reduceNeg]); try with_reducible rfl
  try simp only [Act.put, List.setIfInBounds_toArray, List.set_cons_zero, List.set_cons_succ]
  refine lv rfl (some 10) rfl (v := ?_) ?_ ?_
  rotate_left
  · go_simp; (try simp only [IntKind.wrap_i64, Int.reduceAdd, Int.reduceSub, Int.reduceMod, Int.reducePow, Int.reduceNeg]); try with_reducible rfl
  try simp only [Act.put, List.setIfInBounds_toArray, List.set_cons_zero, List.set_cons_succ]
  refine wpList_nil ?_
  go_wp2_with fail
  refine wp_loop_rounds 7 ?_
  rw [rounds_succ]
  go_upto_region 11 with fail
  refine wp_region_lit ?_
  refine lv rfl (some 45) rfl (v := ?_) ?_ ?_
  rotate_left
  · go_simp; (try simp only [IntKind.wrap_i64, Int.reduceAdd, Int.reduceSub, Int.reduceMod, Int.reducePow, Int.reduceNeg]); try with_reducible rfl
  try simp only [Act.put, List.setIfInBounds_toArray, List.set_cons_zero, List.set_cons_succ]
  refine lv rfl (some 46) rfl (v := ?_) ?_ ?_
  rotate_left
  · go_simp; (try simp only [IntKind.wrap_i64, Int.reduceAdd, Int.reduceSub, Int.reduceMod, Int.reducePow, Int.reduceNeg]); try with_reducible rfl
  try simp only [Act.put, List.setIfInBounds_toArray, List.set_cons_zero, List.set_cons_succ]
  refine wpList_nil ?_
  go_upto_region 13 with fail
  refine wp_region_lit ?_
  refine lv rfl (some 49) rfl (v := ?_) ?_ ?_
  rotate_left
  · go_simp; (try simp only [IntKind.wrap_i64, Int.reduceAdd, Int.reduceSub, Int.reduceMod, Int.reducePow, Int.reduceNeg]); try with_reducible rfl
  try simp only [Act.put, List.setIfInBounds_toArray, List.set_cons_zero, List.set_cons_succ]
  refine lv rfl (some 50) rfl (v := ?_) ?_ ?_
  rotate_left
  · go_simp; (try simp only [IntKind.wrap_i64, Int.reduceAdd, Int.reduceSub, Int.reduceMod, Int.reducePow, Int.reduceNeg]); try with_reducible rfl
  try simp only [Act.put, List.setIfInBounds_toArray, List.set_cons_zero, List.set_cons_succ]
  refine l_cell M7 1 rfl 5 (.tmp 50) _ rfl rfl rfl _ rfl _ rfl (by kernel_rfl) (by kernel_rfl) rfl rfl (a16 (zr X 10 11)) (by kernel_rfl) _ rfl (fun s8 M8 => ?_)
  clear M7
  try simp only [List.cons_append, List.nil_append, List.set_cons_zero, List.set_cons_succ] at M8
  try simp only [Act.put, List.setIfInBounds_toArray, List.set_cons_zero, List.set_cons_succ]
  refine wpList_nil ?_
  go_upto_region 12 with fail
  refine wp_region_lit ?_
  refine lv rfl (some 47) rfl (v := ?_) ?_ ?_
  rotate_left
  · go_simp; (try simp only [IntKind.wrap_i64, Int.reduceAdd, Int.reduceSub, Int.reduceMod, Int.reducePow, Int.reduceNeg]); try with_reducible rfl
  try simp only [Act.put, List.setIfInBounds_toArray, List.set_cons_zero, List.set_cons_succ]
  refine lv rfl (some 48) rfl (v := ?_) ?_ ?_
  rotate_left
  · go_simp; (try simp only [IntKind.wrap_i64, Int.reduceAdd, Int.reduceSub, Int.reduceMod, Int.reducePow, Int.reduceNeg]); try with_reducible rfl
  try simp only [Act.put, List.setIfInBounds_toArray, List.set_cons_zero, List.set_cons_succ]
  refine lv rfl (some 10) rfl (v := ?_) ?_ ?_
  rotate_left
  · go_simp; (try simp only [IntKind.wrap_i64, Int.reduceAdd, Int.reduceSub, Int.reduceMod, Int.reducePow, Int.reduceNeg]); try with_reducible rfl
  try simp only [Act.put, List.setIfInBounds_toArray, List.set_cons_zero, List.set_cons_succ]
  refine wpList_nil ?_
  go_wp2_with fail
  rw [rounds_succ]
  go_upto_region 11 with fail
  refine wp_region_lit ?_
  refine lv rfl (some 45) rfl (v := ?_) ?_ ?_
  rotate_left
  · go_simp; (try simp only [IntKind.wrap_i64, Int.reduceAdd, Int.reduceSub, Int.reduceMod, Int.reducePow, Int.reduceNeg]); try with_reducible rfl
  try simp only [Act.put, List.setIfInBounds_toArray, List.set_cons_zero, List.set_cons_succ]
  refine lv rfl (some 46) rfl (v := ?_) ?_ ?_
  rotate_left
  · go_simp; (try simp only [IntKind.wrap_i64, Int.reduceAdd, Int.reduceSub, Int.reduceMod, Int.reducePow, Int.reduceNeg]); try with_reducible rfl
  try simp only [Act.put, List.setIfInBounds_toArray, List.set_cons_zero, List.set_cons_succ]
  refine wpList_nil ?_
  go_upto_region 13 with fail
  refine wp_region_lit ?_
  refine lv rfl (some 49) rfl (v := ?_) ?_ ?_
  rotate_left
  · go_simp; (try simp only [IntKind.wrap_i64, Int.reduceAdd, Int.reduceSub, Int.reduceMod, Int.reducePow, Int.reduceNeg]); try with_reducible rfl
  try simp only [Act.put, List.setIfInBounds_toArray, List.set_cons_zero, List.set_cons_succ]
  refine lv rfl (some 50) rfl (v := ?_) ?_ ?_
  rotate_left
  · go_simp; (try simp only [IntKind.wrap_i64, Int.reduceAdd, Int.reduceSub, Int.reduceMod, Int.reducePow, Int.reduceNeg]); try with_reducible rfl
  try simp only [Act.put, List.setIfInBounds_toArray, List.set_cons_zero, List.set_cons_succ]
  refine l_cell M8 1 rfl 5 (.tmp 50) _ rfl rfl rfl _ rfl _ rfl (by kernel_rfl) (by kernel_rfl) rfl rfl (a16 (zr X 10 12)) (by kernel_rfl) _ rfl (fun s9 M9 => ?_)
  clear M8
  try simp only [List.cons_append, List.nil_append, List.set_cons_zero, List.set_cons_succ] at M9
  try simp only [Act.put, List.setIfInBounds_toArray, List.set_cons_zero, List.set_cons_succ]
  refine wpList_nil ?_
  go_upto_region 12 with fail
  refine wp_region_lit ?_
  refine lv rfl (some 47) rfl (v := ?_) ?_ ?_
  rotate_left
  · go_simp; (try simp only [IntKind.wrap_i64, Int.reduceAdd, Int.reduceSub, Int.reduceMod, Int.reducePow, Int.reduceNeg]); try with_reducible rfl
  try simp only [Act.put, List.setIfInBounds_toArray, List.set_cons_zero, List.set_cons_succ]
  refine lv rfl (some 48) rfl (v := ?_) ?_ ?_
  rotate_left
  · go_simp; (try simp only [IntKind.wrap_i64, Int.reduceAdd, Int.reduceSub, Int.reduceMod, Int.reducePow, Int.reduceNeg]); try with_reducible rfl
  try simp only [Act.put, List.setIfInBounds_toArray, List.set_cons_zero, List.set_cons_succ]
  refine lv rfl (some 10) rfl (v := ?_) ?_ ?_
  rotate_left
  · go_simp; (try simp only [IntKind.wrap_i64, Int.reduceAdd, Int.reduceSub, Int.reduceMod, Int.reducePow, Int.reduceNeg]); try with_reducible rfl
  try simp only [Act.put, List.setIfInBounds_toArray, List.set_cons_zero, List.set_cons_succ]
  refine wpList_nil ?_
  go_wp2_with fail
  rw [rounds_succ]
  go_upto_region 11 with fail
  refine wp_region_lit ?_
  refine lv rfl (some 45) rfl (v := ?_) ?_ ?_
  rotate_left
  · go_simp; (try simp only [IntKind.wrap_i64, Int.reduceAdd, Int.reduceSub, Int.reduceMod, Int.reducePow, Int.reduceNeg]); try with_reducible rfl
  try simp only [Act.put, List.setIfInBounds_toArray, List.set_cons_zero, List.set_cons_succ]
  refine lv rfl (some 46) rfl (v := ?_) ?_ ?_
  rotate_left
  · go_simp; (try simp only [IntKind.wrap_i64, Int.reduceAdd, Int.reduceSub, Int.reduceMod, Int.reducePow, Int.reduceNeg]); try with_reducible rfl
  try simp only [Act.put, List.setIfInBounds_toArray, List.set_cons_zero, List.set_cons_succ]
  refine wpList_nil ?_
  go_upto_region 13 with fail
  refine wp_region_lit ?_
  refine lv rfl (some 49) rfl (v := ?_) ?_ ?_
  rotate_left
  · go_simp; (try simp only [IntKind.wrap_i64, Int.reduceAdd, Int.reduceSub, Int.reduceMod, Int.reducePow, Int.reduceNeg]); try with_reducible rfl
  try simp only [Act.put, List.setIfInBounds_toArray, List.set_cons_zero, List.set_cons_succ]
  refine lv rfl (some 50) rfl (v := ?_) ?_ ?_
  rotate_left
  · go_simp; (try simp only [IntKind.wrap_i64, Int.reduceAdd, Int.reduceSub, Int.reduceMod, Int.reducePow, Int.reduceNeg]); try with_reducible rfl
  try simp only [Act.put, List.setIfInBounds_toArray, List.set_cons_zero, List.set_cons_succ]
  refine l_cell M9 1 rfl 5 (.tmp 50) _ rfl rfl rfl _ rfl _ rfl (by kernel_rfl) (by kernel_rfl) rfl rfl (a16 (zr X 10 13)) (by kernel_rfl) _ rfl (fun s10 M10 => ?_)
  clear M9
  try simp only [List.cons_append, List.nil_append, List.set_cons_zero, List.set_cons_succ] at M10
  try simp only [Act.put, List.setIfInBounds_toArray, List.set_cons_zero, List.set_cons_succ]
  refine wpList_nil ?_
  go_upto_region 12 with fail
  refine wp_region_lit ?_
  refine lv rfl (some 47) rfl (v := ?_) ?_ ?_
  rotate_left
  · go_simp; (try simp only [IntKind.wrap_i64, Int.reduceAdd, Int.reduceSub, Int.reduceMod, Int.reducePow, Int.reduceNeg]); try with_reducible rfl
  try simp only [Act.put, List.setIfInBounds_toArray, List.set_cons_zero, List.set_cons_succ]
  refine lv rfl (some 48) rfl (v := ?_) ?_ ?_
  rotate_left
  · go_simp; (try simp only [IntKind.wrap_i64, Int.reduceAdd, Int.reduceSub, Int.reduceMod, Int.reducePow, Int.reduceNeg]); try with_reducible rfl
  try simp only [Act.put, List.setIfInBounds_toArray, List.set_cons_zero, List.set_cons_succ]
  refine lv rfl (some 10) rfl (v := ?_) ?_ ?_
  rotate_left
  · go_simp; (try simp only [IntKind.wrap_i64, Int.reduceAdd, Int.reduceSub, Int.reduceMod, Int.reducePow, Int.reduceNeg]); try with_reducible rfl
  try simp only [Act.put, List.setIfInBounds_toArray, List.set_cons_zero, List.set_cons_succ]
  refine wpList_nil ?_
  go_wp2_with fail
  rw [rounds_succ]
  go_upto_region 11 with fail
  refine wp_region_lit ?_
  refine lv rfl (some 45) rfl (v := ?_) ?_ ?_
  rotate_left
  · go_simp; (try simp only [IntKind.wrap_i64, Int.reduceAdd, Int.reduceSub, Int.reduceMod, Int.reducePow, Int.reduceNeg]); try with_reducible rfl
  try simp only [Act.put, List.setIfInBounds_toArray, List.set_cons_zero, List.set_cons_succ]
  refine lv rfl (some 46) rfl (v := ?_) ?_ ?_
  rotate_left
  · go_simp; (try simp only [IntKind.wrap_i64, Int.reduceAdd, Int.reduceSub, Int.reduceMod, Int.reducePow, Int.reduceNeg]); try with_reducible rfl
  try simp only [Act.put, List.setIfInBounds_toArray, List.set_cons_zero, List.set_cons_succ]
  refine wpList_nil ?_
  go_upto_region 13 with fail
  refine wp_region_lit ?_
  refine lv rfl (some 49) rfl (v := ?_) ?_ ?_
  rotate_left
  · go_simp; (try simp only [IntKind.wrap_i64, Int.reduceAdd, Int.reduceSub, Int.reduceMod, Int.reducePow, Int.reduceNeg]); try with_reducible rfl
  try simp only [Act.put, List.setIfInBounds_toArray, List.set_cons_zero, List.set_cons_succ]
  refine lv rfl (some 50) rfl (v := ?_) ?_ ?_
  rotate_left
  · go_simp; (try simp only [IntKind.wrap_i64, Int.reduceAdd, Int.reduceSub, Int.reduceMod, Int.reducePow, Int.reduceNeg]); try with_reducible rfl
  try simp only [Act.put, List.setIfInBounds_toArray, List.set_cons_zero, List.set_cons_succ]
  refine l_cell M10 1 rfl 5 (.tmp 50) _ rfl rfl rfl _ rfl _ rfl (by kernel_rfl) (by kernel_rfl) rfl rfl (a16 (zr X 10 14)) (by kernel_rfl) _ rfl (fun s11 M11 => ?_)
  clear M10
  try simp only [List.cons_append, List.nil_append, List.set_cons_zero, List.set_cons_succ] at M11
  try simp only [Act.put, List.setIfInBounds_toArray, List.set_cons_zero, List.set_cons_succ]
  refine wpList_nil ?_
  go_upto_region 12 with fail
  refine wp_region_lit ?_
  refine lv rfl (some 47) rfl (v := ?_) ?_ ?_
  rotate_left
  · go_simp; (try simp only [IntKind.wrap_i64, Int.reduceAdd, Int.reduceSub, Int.reduceMod, Int.reducePow, Int.reduceNeg]); try with_reducible rfl
  try simp only [Act.put, List.setIfInBounds_toArray, List.set_cons_zero, List.set_cons_succ]
  refine lv rfl (some 48) rfl (v := ?_) ?_ ?_
  rotate_left
  · go_simp; (try simp only [IntKind.wrap_i64, Int.reduceAdd, Int.reduceSub, Int.reduceMod, Int.reducePow, Int.reduceNeg]); try with_reducible rfl
  try simp only [Act.put, List.setIfInBounds_toArray, List.set_cons_zero, List.set_cons_succ]
  refine lv rfl (some 10) rfl (v := ?_) ?_ ?_
  rotate_left
  · go_simp; (try simp only [IntKind.wrap_i64, Int.reduceAdd, Int.reduceSub, Int.reduceMod, Int.reducePow, Int.reduceNeg]); try with_reducible rfl
  try simp only [Act.put, List.setIfInBounds_toArray, List.set_cons_zero, List.set_cons_succ]
  refine wpList_nil ?_
  go_wp2_with fail
  rw [rounds_succ]
  go_upto_region 11 with fail
  refine wp_region_lit ?_
  refine lv rfl (some 45) rfl (v := ?_) ?_ ?_
  rotate_left
  · go_simp; (try simp only [IntKind.wrap_i64, Int.reduceAdd, Int.reduceSub, Int.reduceMod, Int.reducePow, Int.reduceNeg]); try with_reducible rfl
  try simp only [Act.put, List.setIfInBounds_toArray, List.set_cons_zero, List.set_cons_succ]
  refine lv rfl (some 46) rfl (v := ?_) ?_ ?_
  rotate_left
  · go_simp; (try simp only [IntKind.wrap_i64, Int.reduceAdd, Int.reduceSub, Int.reduceMod, Int.reducePow, Int.reduceNeg]); try with_reducible rfl
  try simp only [Act.put, List.setIfInBounds_toArray, List.set_cons_zero, List.set_cons_succ]
  refine wpList_nil ?_
  go_upto_region 13 with fail
  refine wp_region_lit ?_
  refine lv rfl (some 49) rfl (v := ?_) ?_ ?_
  rotate_left
  · go_simp; (try simp only [IntKind.wrap_i64, Int.reduceAdd, Int.reduceSub, Int.reduceMod, Int.reducePow, Int.reduceNeg]); try with_reducible rfl
  try simp only [Act.put, List.setIfInBounds_toArray, List.set_cons_zero, List.set_cons_succ]
  refine lv rfl (some 50) rfl (v := ?_) ?_ ?_
  rotate_left
  · go_simp; (try simp only [IntKind.wrap_i64, Int.reduceAdd, Int.reduceSub, Int.reduceMod, Int.reducePow, Int.reduceNeg]); try with_reducible rfl
  try simp only [Act.put, List.setIfInBounds_toArray, List.set_cons_zero, List.set_cons_succ]
  refine l_cell M11 1 rfl 5 (.tmp 50) _ rfl rfl rfl _ rfl _ rfl (by kernel_rfl) (by kernel_rfl) rfl rfl (a16 (zr X 10 15)) (by kernel_rfl) _ rfl (fun s12 M12 => ?_)
  clear M11
  try simp only [List.cons_append, List.nil_append, List.set_cons_zero, List.set_cons_succ] at M12
  try simp only [Act.put, List.setIfInBounds_toArray, List.set_cons_zero, List.set_cons_succ]
  refine wpList_nil ?_
  go_upto_region 12 with fail
  refine wp_region_lit ?_
  refine lv rfl (some 47) rfl (v := ?_) ?_ ?_
  rotate_left
  · go_simp; (try simp only [IntKind.wrap_i64, Int.reduceAdd, Int.reduceSub, Int.reduceMod, Int.reducePow, Int.reduceNeg]); try with_reducible rfl
  try simp only [Act.put, List.setIfInBounds_toArray, List.set_cons_zero, List.set_cons_succ]
  refine lv rfl (some 48) rfl (v := ?_) ?_ ?_
  rotate_left
  · go_simp; (try simp only [IntKind.wrap_i64, Int.reduceAdd, Int.reduceSub, Int.reduceMod, Int.reducePow, Int.reduceNeg]); try with_reducible rfl
  try simp only [Act.put, List.setIfInBounds_toArray, List.set_cons_zero, List.set_cons_succ]
  refine lv rfl (some 10) rfl (v := ?_) ?_ ?_
  rotate_left
  · go_simp; (try simp only [IntKind.wrap_i64, Int.reduceAdd, Int.reduceSub, Int.reduceMod, Int.reducePow, Int.reduceNeg]); try with_reducible rfl
  try simp only [Act.put, List.setIfInBounds_toArray, List.set_cons_zero, List.set_cons_succ]
  refine wpList_nil ?_
  go_wp2_with fail
  rw [rounds_succ]
  go_upto_region 11 with fail
  refine wp_region_lit ?_
  refine lv rfl (some 45) rfl (v := ?_) ?_ ?_
  rotate_left
  · go_simp; (try simp only [IntKind.wrap_i64, Int.reduceAdd, Int.reduceSub, Int.reduceMod, Int.reducePow, Int.reduceNeg]); try with_reducible rfl
  try simp only [Act.put, List.setIfInBounds_toArray, List.set_cons_zero, List.set_cons_succ]
  refine lv rfl (some 46) rfl (v := ?_) ?_ ?_
  rotate_left
  · go_simp; (try simp only [IntKind.wrap_i64, Int.reduceAdd, Int.reduceSub, Int.reduceMod, Int.reducePow, Int.reduceNeg]); try with_reducible rfl
  try simp only [Act.put, List.setIfInBounds_toArray, List.set_cons_zero, List.set_cons_succ]
  refine wpList_nil ?_
  go_upto_region 13 with fail
  refine wp_region_lit ?_
  refine lv rfl (some 49) rfl (v := ?_) ?_ ?_
  rotate_left
  · go_simp; (try simp only [IntKind.wrap_i64, Int.reduceAdd, Int.reduceSub, Int.reduceMod, Int.reducePow, Int.reduceNeg]); try with_reducible rfl
  try simp only [Act.put, List.setIfInBounds_toArray, List.set_cons_zero, List.set_cons_succ]
  refine lv rfl (some 50) rfl (v := ?_) ?_ ?_
  rotate_left
  · go_simp; (try simp only [IntKind.wrap_i64, Int.reduceAdd, Int.reduceSub, Int.reduceMod, Int.reducePow, Int.reduceNeg]); try with_reducible rfl
  try simp only [Act.put, List.setIfInBounds_toArray, List.set_cons_zero, List.set_cons_succ]
  refine l_cell M12 1 rfl 5 (.tmp 50) _ rfl rfl rfl _ rfl _ rfl (by kernel_rfl) (by kernel_rfl) rfl rfl (a16 (zr X 10 16)) (by kernel_rfl) _ rfl (fun s13 M13 => ?_)
  clear M12
  try simp only [List.cons_append, List.nil_append, List.set_cons_zero, List.set_cons_succ] at M13
  try simp only [Act.put, List.setIfInBounds_toArray, List.set_cons_zero, List.set_cons_succ]
  refine wpList_nil ?_
  go_upto_region 12 with fail
  refine wp_region_lit ?_
  refine lv rfl (some 47) rfl (v := ?_) ?_ ?_
  rotate_left
  · go_simp; (try simp only [IntKind.wrap_i64, Int.reduceAdd, Int.reduceSub, Int.reduceMod, Int.reducePow, Int.reduceNeg]); try with_reducible rfl
  try simp only [Act.put, List.setIfInBounds_toArray, List.set_cons_zero, List.set_cons_succ]
  refine lv rfl (some 48) rfl (v := ?_) ?_ ?_
  rotate_left
  · go_simp; (try simp only [IntKind.wrap_i64, Int.reduceAdd, Int.reduceSub, Int.reduceMod, Int.reducePow, Int.reduceNeg]); try with_reducible rfl
  try simp only [Act.put, List.setIfInBounds_toArray, List.set_cons_zero, List.set_cons_succ]
  refine lv rfl (some 10) rfl (v := ?_) ?_ ?_
  rotate_left
  · go_simp; (try simp only [IntKind.wrap_i64, Int.reduceAdd, Int.reduceSub, Int.reduceMod, Int.reducePow, Int.reduceNeg]); try with_reducible rfl
  try simp only [Act.put, List.setIfInBounds_toArray, List.set_cons_zero, List.set_cons_succ]
  refine wpList_nil ?_
  go_wp2_with fail
  rw [rounds_succ]
  go_upto_region 11 with fail
  refine wp_region_lit ?_
  refine lv rfl (some 45) rfl (v := ?_) ?_ ?_
  rotate_left
  · go_simp; (try simp only [IntKind.wrap_i64, Int.reduceAdd, Int.reduceSub, Int.reduceMod, Int.reducePow, Int.reduceNeg]); try with_reducible rfl
  try simp only [Act.put, List.setIfInBounds_toArray, List.set_cons_zero, List.set_cons_succ]
  refine lv rfl (some 46) rfl (v := ?_) ?_ ?_
  rotate_left
  · go_simp; (try simp only [IntKind.wrap_i64, Int.reduceAdd, Int.reduceSub, Int.reduceMod, Int.reducePow, Int.reduceNeg]); try with_reducible rfl
  try simp only [Act.put, List.setIfInBounds_toArray, List.set_cons_zero, List.set_cons_succ]
  refine wpList_nil ?_
  go_upto_region 14 with fail
  refine wp_region_lit ?_
  refine lv rfl (some 51) rfl (v := ?_) ?_ ?_
  rotate_left
  · go_simp; (try simp only [IntKind.wrap_i64, Int.reduceAdd, Int.reduceSub, Int.reduceMod, Int.reducePow, Int.reduceNeg]); try with_reducible rfl
  try simp only [Act.put, List.setIfInBounds_toArray, List.set_cons_zero, List.set_cons_succ]
  refine lv rfl (some 52) rfl (v := ?_) ?_ ?_
  rotate_left
  · go_simp; (try simp only [IntKind.wrap_i64, Int.reduceAdd, Int.reduceSub, Int.reduceMod, Int.reducePow, Int.reduceNeg]); try with_reducible rfl
  try simp only [Act.put, List.setIfInBounds_toArray, List.set_cons_zero, List.set_cons_succ]
  refine ly M13 (some 53) rfl (yi_row 0 26 (.tmp 2) rfl rfl rfl rfl Try.underlying26 rfl (by kernel_rfl)) ?_
  try simp only [Act.put, List.setIfInBounds_toArray, List.set_cons_zero, List.set_cons_succ]
  refine ly M13 (some 54) rfl (yi_row 1 23 (.tmp 3) rfl rfl rfl rfl Try.underlying23 rfl (by kernel_rfl)) ?_
  try simp only [Act.put, List.setIfInBounds_toArray, List.set_cons_zero, List.set_cons_succ]
  refine l_call rfl (some 55) rfl (c19 _) (by kernel_rfl) (fun s14 hb14 => ?_)
  have M14 := M13.call hb14
  clear hb14 M13
  try simp only [Act.put, List.setIfInBounds_toArray, List.set_cons_zero, List.set_cons_succ]
  refine lv rfl (some 56) rfl (v := ?_) ?_ ?_
  rotate_left
  · go_simp; (try simp only [IntKind.wrap_i64, Int.reduceAdd, Int.reduceSub, Int.reduceMod, Int.reducePow, Int.reduceNeg]); try with_reducible rfl
  try simp only [Act.put, List.setIfInBounds_toArray, List.set_cons_zero, List.set_cons_succ]
  refine lv rfl (some 57) rfl (v := ?_) ?_ ?_
  rotate_left
  · go_simp; (try simp only [IntKind.wrap_i64, Int.reduceAdd, Int.reduceSub, Int.reduceMod, Int.reducePow, Int.reduceNeg]); try with_reducible rfl
  try simp only [Act.put, List.setIfInBounds_toArray, List.set_cons_zero, List.set_cons_succ]
  refine ly M14 (some 58) rfl (yi_row 3 23 (.tmp 7) rfl rfl rfl rfl Try.underlying23 rfl (by kernel_rfl)) ?_
  try simp only [Act.put, List.setIfInBounds_toArray, List.set_cons_zero, List.set_cons_succ]
  refine ly M14 (some 59) rfl (yi_row 1 23 (.tmp 3) rfl rfl rfl rfl Try.underlying23 rfl (by kernel_rfl)) ?_
  try simp only [Act.put, List.setIfInBounds_toArray, List.set_cons_zero, List.set_cons_succ]
  refine lv rfl (some 60) rfl (v := ?_) ?_ ?_
  rotate_left
  · go_simp; (try simp only [IntKind.wrap_i64, Int.reduceAdd, Int.reduceSub, Int.reduceMod, Int.reducePow, Int.reduceNeg]); try with_reducible rfl
  try simp only [Act.put, List.setIfInBounds_toArray, List.set_cons_zero, List.set_cons_succ]
  refine lv rfl (some 61) rfl (v := ?_) ?_ ?_
  rotate_left
  · go_simp; (try simp only [IntKind.wrap_i64, Int.reduceAdd, Int.reduceSub, Int.reduceMod, Int.reducePow, Int.reduceNeg]); try with_reducible rfl
  try simp only [Act.put, List.setIfInBounds_toArray, List.set_cons_zero, List.set_cons_succ]
  refine lv rfl (some 4) rfl (v := ?_) ?_ ?_
  rotate_left
  · go_simp; (try simp only [IntKind.wrap_i64, Int.reduceAdd, Int.reduceSub, Int.reduceMod, Int.reducePow, Int.reduceNeg]); try with_reducible rfl
  try simp only [Act.put, List.setIfInBounds_toArray, List.set_cons_zero, List.set_cons_succ]
  refine wpList_nil ?_
  go_wp2_with fail
  go_ret
  exact ⟨rfl, M14.below⟩
set_option maxRecDepth 100000 in
set_option maxHeartbeats 4000000 in
theorem once_48 (P X : Nat → Int) (w : World) (bp : Bytes 16 P) (bx : Bytes 16 X) (h : InsideP P X 48) (h8 : X 8 = 0) : Calls Try.prog 7 #[net P 48, .agg (a16 X)] w fun e w' => e = .returned (.bool true) ∧ Below w.heap.size w w' := by
  have c12 := fun w => extract_t bp bx h h8 w
  have c10 := fun w => embed_t h.1 (ext X 48) w
  have c19 := fun w => inside_t bp (zr_bytes bx 11 16) (zr_inside h (lo := 11) (by decide) 16) w
  have he : ∀ w, (Op.equalIn 10000 23 (.agg (a16 (emb P (ext X 48) 48))) (.agg (a16 (zr X 11 16)))).run Try.prog w = .ok true w := fun w => eq16 (r := true) (by
    simp only [true_iff]
    refine once_eq h h8 ?_ ?_ (by decide)
    · intro k hk; match k, hk with | 0, _ => decide | 1, _ => decide | 2, _ => decide | 3, _ => decide | k + 4, h => exact absurd h (by omega)
    · intro j hj hj2
      have hj2 : 6 ≤ j := hj2
      rcases (by omega : j = 6 ∨ j = 7 ∨ j = 8 ∨ j = 9 ∨ j = 10) with rfl | rfl | rfl | rfl | rfl
      · exact .inr ⟨0, by omega, rfl⟩
      · exact .inr ⟨1, by omega, rfl⟩
      · exact .inl rfl
      · exact .inr ⟨2, by omega, rfl⟩
      · exact .inr ⟨3, by omega, rfl⟩) w
  clear bp bx h h8
  go_enter Try.func7, Try.ntmps7
  go_upto_region 1 with fail
  have M0 := Mem.two w 26 23 #[.int .u8 (P 0), .int .u8 (P 1), .int .u8 (P 2), .int .u8 (P 3), .int .u8 (P 4), .int .u8 (P 5), .int .u8 (P 6), .int .u8 (P 7), .int .u8 (P 8), .int .u8 (P 9), .int .u8 (P 10), .int .u8 (P 11), .int .u8 (P 12), .int .u8 (P 13), .int .u8 (P 14), .int .u8 (P 15), .int .i64 48] (a16 X)
  refine wp_region_lit ?_
  refine l_call rfl (some 11) rfl (awake_any _) (by kernel_rfl) (fun s1 hb1 => ?_)
  have M1 := M0.call hb1
  clear hb1 M0
  try simp only [Act.put, List.setIfInBounds_toArray, List.set_cons_zero, List.set_cons_succ]
  refine lv rfl (some 12) rfl (v := ?_) ?_ ?_
  rotate_left
  · go_simp; (try simp only [IntKind.wrap_i64, Int.reduceAdd, Int.reduceSub, Int.reduceMod, Int.reducePow, Int.reduceNeg]); try with_reducible rfl
  try simp only [Act.put, List.setIfInBounds_toArray, List.set_cons_zero, List.set_cons_succ]
  refine wpList_nil ?_
  go_upto_region 3 with fail
  refine wp_region_lit ?_
  refine ly M1 (some 14) rfl (yi_row 0 26 (.tmp 2) rfl rfl rfl rfl Try.underlying26 rfl (by kernel_rfl)) ?_
  try simp only [Act.put, List.setIfInBounds_toArray, List.set_cons_zero, List.set_cons_succ]
  refine ly M1 (some 15) rfl (yi_row 1 23 (.tmp 3) rfl rfl rfl rfl Try.underlying23 rfl (by kernel_rfl)) ?_
  try simp only [Act.put, List.setIfInBounds_toArray, List.set_cons_zero, List.set_cons_succ]
  refine l_call rfl (some 16) rfl (c12 _) (by kernel_rfl) (fun s2 hb2 => ?_)
  have M2 := M1.call hb2
  clear hb2 M1
  try simp only [Act.put, List.setIfInBounds_toArray, List.set_cons_zero, List.set_cons_succ]
  refine lv rfl (some 13) rfl (v := ?_) ?_ ?_
  rotate_left
  · go_simp; (try simp only [IntKind.wrap_i64, Int.reduceAdd, Int.reduceSub, Int.reduceMod, Int.reducePow, Int.reduceNeg]); try with_reducible rfl
  try simp only [Act.put, List.setIfInBounds_toArray, List.set_cons_zero, List.set_cons_succ]
  refine lv rfl (some 17) rfl (v := ?_) ?_ ?_
  rotate_left
  · go_simp; (try simp only [IntKind.wrap_i64, Int.reduceAdd, Int.reduceSub, Int.reduceMod, Int.reducePow, Int.reduceNeg]); try with_reducible rfl
  try simp only [Act.put, List.setIfInBounds_toArray, List.set_cons_zero, List.set_cons_succ]
  refine lv rfl (some 18) rfl (v := ?_) ?_ ?_
  rotate_left
  · go_simp; (try simp only [IntKind.wrap_i64, Int.reduceAdd, Int.reduceSub, Int.reduceMod, Int.reducePow, Int.reduceNeg]); try with_reducible rfl
  try simp only [Act.put, List.setIfInBounds_toArray, List.set_cons_zero, List.set_cons_succ]
  refine l_alloc rfl (some 5) rfl #[.int .u8 0, .int .u8 0, .int .u8 0, .int .u8 0] 31 (by kernel_rfl) ?_
  have M3 := M2.new rfl 31 #[.int .u8 0, .int .u8 0, .int .u8 0, .int .u8 0]
  clear M2
  try simp only [List.cons_append, List.nil_append, List.set_cons_zero, List.set_cons_succ] at M3
  try simp only [Act.put, List.setIfInBounds_toArray, List.set_cons_zero, List.set_cons_succ]
  refine l_store M3 2 rfl 31 (.tmp 5) _ rfl rfl rfl rfl _ rfl (by kernel_rfl) (by rfl) (by kernel_rfl) _ rfl (fun s4 M4 => ?_)
  clear M3
  try simp only [List.cons_append, List.nil_append, List.set_cons_zero, List.set_cons_succ] at M4
  try simp only [Act.put, List.setIfInBounds_toArray, List.set_cons_zero, List.set_cons_succ]
  refine lv rfl (some 6) rfl (v := ?_) ?_ ?_
  rotate_left
  · go_simp; (try simp only [IntKind.wrap_i64, Int.reduceAdd, Int.reduceSub, Int.reduceMod, Int.reducePow, Int.reduceNeg]); try with_reducible rfl
  try simp only [Act.put, List.setIfInBounds_toArray, List.set_cons_zero, List.set_cons_succ]
  refine wpList_nil ?_
  go_upto_region 4 with fail
  refine wp_region_lit ?_
  refine lv rfl (some 19) rfl (v := ?_) ?_ ?_
  rotate_left
  · go_simp; (try simp only [IntKind.wrap_i64, Int.reduceAdd, Int.reduceSub, Int.reduceMod, Int.reducePow, Int.reduceNeg]); try with_reducible rfl
  try simp only [Act.put, List.setIfInBounds_toArray, List.set_cons_zero, List.set_cons_succ]
  refine lv rfl (some 20) rfl (v := ?_) ?_ ?_
  rotate_left
  · go_simp; (try simp only [IntKind.wrap_i64, Int.reduceAdd, Int.reduceSub, Int.reduceMod, Int.reducePow, Int.reduceNeg]); try with_reducible rfl
  try simp only [Act.put, List.setIfInBounds_toArray, List.set_cons_zero, List.set_cons_succ]
  refine wpList_nil ?_
  go_upto_region 6 with fail
  refine wp_region_lit ?_
  refine ly M4 (some 25) rfl (yi_row 0 26 (.tmp 2) rfl rfl rfl rfl Try.underlying26 rfl (by kernel_rfl)) ?_
  try simp only [Act.put, List.setIfInBounds_toArray, List.set_cons_zero, List.set_cons_succ]
  refine ly M4 (some 26) rfl (yi_row 2 31 (.tmp 5) rfl rfl rfl rfl Try.underlying31 rfl (by kernel_rfl)) ?_
  try simp only [Act.put, List.setIfInBounds_toArray, List.set_cons_zero, List.set_cons_succ]
  refine l_call rfl (some 27) rfl (c10 _) (by kernel_rfl) (fun s5 hb5 => ?_)
  have M5 := M4.call hb5
  clear hb5 M4
  try simp only [Act.put, List.setIfInBounds_toArray, List.set_cons_zero, List.set_cons_succ]
  refine lv rfl (some 24) rfl (v := ?_) ?_ ?_
  rotate_left
  · go_simp; (try simp only [IntKind.wrap_i64, Int.reduceAdd, Int.reduceSub, Int.reduceMod, Int.reducePow, Int.reduceNeg]); try with_reducible rfl
  try simp only [Act.put, List.setIfInBounds_toArray, List.set_cons_zero, List.set_cons_succ]
  refine lv rfl (some 28) rfl (v := ?_) ?_ ?_
  rotate_left
  · go_simp; (try simp only [IntKind.wrap_i64, Int.reduceAdd, Int.reduceSub, Int.reduceMod, Int.reducePow, Int.reduceNeg]); try with_reducible rfl
  try simp only [Act.put, List.setIfInBounds_toArray, List.set_cons_zero, List.set_cons_succ]
  refine lv rfl (some 29) rfl (v := ?_) ?_ ?_
  rotate_left
  · go_simp; (try simp only [IntKind.wrap_i64, Int.reduceAdd, Int.reduceSub, Int.reduceMod, Int.reducePow, Int.reduceNeg]); try with_reducible rfl
  try simp only [Act.put, List.setIfInBounds_toArray, List.set_cons_zero, List.set_cons_succ]
  refine l_alloc rfl (some 7) rfl #[.int .u8 0, .int .u8 0, .int .u8 0, .int .u8 0, .int .u8 0, .int .u8 0, .int .u8 0, .int .u8 0, .int .u8 0, .int .u8 0, .int .u8 0, .int .u8 0, .int .u8 0, .int .u8 0, .int .u8 0, .int .u8 0] 23 (by kernel_rfl) ?_
  have M6 := M5.new rfl 23 #[.int .u8 0, .int .u8 0, .int .u8 0, .int .u8 0, .int .u8 0, .int .u8 0, .int .u8 0, .int .u8 0, .int .u8 0, .int .u8 0, .int .u8 0, .int .u8 0, .int .u8 0, .int .u8 0, .int .u8 0, .int .u8 0]
  clear M5
  try simp only [List.cons_append, List.nil_append, List.set_cons_zero, List.set_cons_succ] at M6
  try simp only [Act.put, List.setIfInBounds_toArray, List.set_cons_zero, List.set_cons_succ]
  refine l_store M6 3 rfl 23 (.tmp 7) _ rfl rfl rfl rfl _ rfl (by kernel_rfl) (by rfl) (by kernel_rfl) _ rfl (fun s7 M7 => ?_)
  clear M6
  try simp only [List.cons_append, List.nil_append, List.set_cons_zero, List.set_cons_succ] at M7
  try simp only [Act.put, List.setIfInBounds_toArray, List.set_cons_zero, List.set_cons_succ]
  refine lv rfl (some 8) rfl (v := ?_) ?_ ?_
  rotate_left
  · go_simp; (try simp only [IntKind.wrap_i64, Int.reduceAdd, Int.reduceSub, Int.reduceMod, Int.reducePow, Int.reduceNeg]); try with_reducible rfl
  try simp only [Act.put, List.setIfInBounds_toArray, List.set_cons_zero, List.set_cons_succ]
  refine wpList_nil ?_
  go_upto_region 7 with fail
  refine wp_region_lit ?_
  refine lv rfl (some 30) rfl (v := ?_) ?_ ?_
  rotate_left
  · go_simp; (try simp only [IntKind.wrap_i64, Int.reduceAdd, Int.reduceSub, Int.reduceMod, Int.reducePow, Int.reduceNeg]); try with_reducible rfl
  try simp only [Act.put, List.setIfInBounds_toArray, List.set_cons_zero, List.set_cons_succ]
  refine ly M7 (some 31) rfl (yi_cell 0 3 (.tmp 30) rfl rfl rfl _ rfl _ Try.underlying3 rfl) ?_
  try simp only [Act.put, List.setIfInBounds_toArray, List.set_cons_zero, List.set_cons_succ]
  refine lv rfl (some 32) rfl (v := ?_) ?_ ?_
  rotate_left
  · go_simp; (try simp only [IntKind.wrap_i64, Int.reduceAdd, Int.reduceSub, Int.reduceMod, Int.reducePow, Int.reduceNeg]); try with_reducible rfl
  try simp only [Act.put, List.setIfInBounds_toArray, List.set_cons_zero, List.set_cons_succ]
  refine lv rfl (some 33) rfl (v := ?_) ?_ ?_
  rotate_left
  · go_simp; (try simp only [IntKind.wrap_i64, Int.reduceAdd, Int.reduceSub, Int.reduceMod, Int.reducePow, Int.reduceNeg]); try with_reducible rfl
  try simp only [Act.put, List.setIfInBounds_toArray, List.set_cons_zero, List.set_cons_succ]
  refine lv rfl (some 9) rfl (v := ?_) ?_ ?_
  rotate_left
  · go_simp; (try simp only [IntKind.wrap_i64, Int.reduceAdd, Int.reduceSub, Int.reduceMod, Int.reducePow, Int.reduceNeg]); try with_reducible rfl
  try simp only [Act.put, List.setIfInBounds_toArray, List.set_cons_zero, List.set_cons_succ]
  refine wpList_nil ?_
  go_upto_region 8 with fail
  refine wp_region_lit ?_
  refine lv rfl (some 34) rfl (v := ?_) ?_ ?_
  rotate_left
  · go_simp; (try simp only [IntKind.wrap_i64, Int.reduceAdd, Int.reduceSub, Int.reduceMod, Int.reducePow, Int.reduceNeg]); try with_reducible rfl
  try simp only [Act.put, List.setIfInBounds_toArray, List.set_cons_zero, List.set_cons_succ]
  refine ly M7 (some 35) rfl (yi_cell 0 3 (.tmp 34) rfl rfl rfl _ rfl _ Try.underlying3 rfl) ?_
  try simp only [Act.put, List.setIfInBounds_toArray, List.set_cons_zero, List.set_cons_succ]
  refine lv rfl (some 36) rfl (v := ?_) ?_ ?_
  rotate_left
  · go_simp; (try simp only [IntKind.wrap_i64, Int.reduceAdd, Int.reduceSub, Int.reduceMod, Int.reducePow, Int.reduceNeg]); try with_reducible rfl
  try simp only [Act.put, List.setIfInBounds_toArray, List.set_cons_zero, List.set_cons_succ]
  refine lv rfl (some 37) rfl (v := ?_) ?_ ?_
  rotate_left
  · go_simp; (try simp only [IntKind.wrap_i64, Int.reduceAdd, Int.reduceSub, Int.reduceMod, Int.reducePow, Int.reduceNeg]); try with_reducible rfl
  try simp only [Act.put, List.setIfInBounds_toArray, List.set_cons_zero, List.set_cons_succ]
  refine lv rfl (some 38) rfl (v := ?_) ?_ ?_
  rotate_left
  · go_simp; (try simp only [IntKind.wrap_i64, Int.reduceAdd, Int.reduceSub, Int.reduceMod, Int.reducePow, Int.reduceNeg]); try with_reducible rfl
  try simp only [Act.put, List.setIfInBounds_toArray, List.set_cons_zero, List.set_cons_succ]
  refine ly M7 (some 39) rfl (yi_cell 0 3 (.tmp 38) rfl rfl rfl _ rfl _ Try.underlying3 rfl) ?_
  try simp only [Act.put, List.setIfInBounds_toArray, List.set_cons_zero, List.set_cons_succ]
  refine lv rfl (some 40) rfl (v := ?_) ?_ ?_
  rotate_left
  · go_simp; (try simp only [IntKind.wrap_i64, Int.reduceAdd, Int.reduceSub, Int.reduceMod, Int.reducePow, Int.reduceNeg]); try with_reducible rfl
  try simp only [Act.put, List.setIfInBounds_toArray, List.set_cons_zero, List.set_cons_succ]
  refine lv rfl (some 41) rfl (v := ?_) ?_ ?_
  rotate_left
  · go_simp; (try simp only [IntKind.wrap_i64, Int.reduceAdd, Int.reduceSub, Int.reduceMod, Int.reducePow, Int.reduceNeg]); try with_reducible rfl
  try simp only [Act.put, List.setIfInBounds_toArray, List.set_cons_zero, List.set_cons_succ]
  refine wpList_nil ?_
  go_upto_region 9 with fail
  refine wp_region_lit ?_
  refine lv rfl (some 42) rfl (v := ?_) ?_ ?_
  rotate_left
  · go_simp; (try simp only [IntKind.wrap_i64, Int.reduceAdd, Int.reduceSub, Int.reduceMod, Int.reducePow, Int.reduceNeg]); try with_reducible rfl
  try simp only [Act.put, List.setIfInBounds_toArray, List.set_cons_zero, List.set_cons_succ]
  refine lv rfl (some 43) rfl (v := ?_) ?_ ?_
  rotate_left
  · go_simp; (try simp only [IntKind.wrap_i64, Int.reduceAdd, Int.reduceSub, Int.reduceMod, Int.reducePow, Int.reduceNeg]); try with_reducible rfl
  try simp only [Act.put, List.setIfInBounds_toArray, List.set_cons_zero, List.set_cons_succ]
  refine lv rfl (some 9) rfl (v := ?_) ?_ ?_
  rotate_left
  · go_simp; (try simp only [IntKind.wrap_i64, Int.reduceAdd, Int.reduceSub, Int.reduceMod, Int.reducePow, Int.reduceNeg]); try with_reducible rfl
  try simp only [Act.put, List.setIfInBounds_toArray, List.set_cons_zero, List.set_cons_succ]
  refine wpList_nil ?_
  go_upto_region 10 with fail
  refine wp_region_lit ?_
  refine lv rfl (some 44) rfl (v := ?_) ?_ ?_
  rotate_left
  · go_simp; (try simp only [IntKind.wrap_i64, Int.reduceAdd, Int.reduceSub, Int.reduceMod, Int.reducePow, Int.reduceNeg]); try with_reducible rfl
  try simp only [Act.put, List.setIfInBounds_toArray, List.set_cons_zero, List.set_cons_succ]
  refine lv rfl (some 10) rfl (v := ?_) ?_ ?_
  rotate_left
  · go_simp; (try simp only [IntKind.wrap_i64, Int.reduceAdd, Int.reduceSub, Int.reduceMod, Int.reducePow, Int.reduceNeg]); try with_reducible rfl
  try simp only [Act.put, List.setIfInBounds_toArray, List.set_cons_zero, List.set_cons_succ]
  refine wpList_nil ?_
  go_wp2_with fail
  refine wp_loop_rounds 6 ?_
  rw [rounds_succ]
  go_upto_region 11 with fail
  refine wp_region_lit ?_
  refine lv rfl (some 45) rfl (v := ?_) ?_ ?_
  rotate_left
  · go_simp; (try simp only [IntKind.wrap_i64, Int.reduceAdd, Int.reduceSub, Int.reduceMod, Int.reducePow, Int.reduceNeg]); try with_reducible rfl
  try simp only [Act.put, List.setIfInBounds_toArray, List.set_cons_zero, List.set_cons_succ]
  refine lv rfl (some 46) rfl (v := ?_) ?_ ?_
  rotate_left
  · go_simp; (try simp only [IntKind.wrap_i64, Int.reduceAdd, Int.reduceSub, Int.reduceMod, Int.reducePow, Int.reduceNeg]); try with_reducible rfl
  try simp only [Act.put, List.setIfInBounds_toArray, List.set_cons_zero, List.set_cons_succ]
  refine wpList_nil ?_
  go_upto_region 13 with fail
  refine wp_region_lit ?_
  refine lv rfl (some 49) rfl (v := ?_) ?_ ?_
  rotate_left
  · go_simp; (try simp only [IntKind.wrap_i64, Int.reduceAdd, Int.reduceSub, Int.reduceMod, Int.reducePow, Int.reduceNeg]); try with_reducible rfl
  try simp only [Act.put, List.setIfInBounds_toArray, List.set_cons_zero, List.set_cons_succ]
  refine lv rfl (some 50) rfl (v := ?_) ?_ ?_
  rotate_left
  · go_simp; (try simp only [IntKind.wrap_i64, Int.reduceAdd, Int.reduceSub, Int.reduceMod, Int.reducePow, Int.reduceNeg]); try with_reducible rfl
  try simp only [Act.put, List.setIfInBounds_toArray, List.set_cons_zero, List.set_cons_succ]
  refine l_cell M7 1 rfl 5 (.tmp 50) _ rfl rfl rfl _ rfl _ rfl (by kernel_rfl) (by kernel_rfl) rfl rfl (a16 (zr X 11 12)) (by kernel_rfl) _ rfl (fun s8 M8 => ?_)
  clear M7
  try simp only [List.cons_append, List.nil_append, List.set_cons_zero, List.set_cons_succ] at M8
  try simp only [Act.put, List.setIfInBounds_toArray, List.set_cons_zero, List.set_cons_succ]
  refine wpList_nil ?_
  go_upto_region 12 with fail
  refine wp_region_lit ?_
  refine lv rfl (some 47) rfl (v := ?_) ?_ ?_
  rotate_left
  · go_simp; (try simp only [IntKind.wrap_i64, Int.reduceAdd, Int.reduceSub, Int.reduceMod, Int.reducePow, Int.reduceNeg]); try with_reducible rfl
  try simp only [Act.put, List.setIfInBounds_toArray, List.set_cons_zero, List.set_cons_succ]
  refine lv rfl (some 48) rfl (v := ?_) ?_ ?_
  rotate_left
  · go_simp; (try simp only [IntKind.wrap_i64, Int.reduceAdd, Int.reduceSub, Int.reduceMod, Int.reducePow, Int.reduceNeg]); try with_reducible rfl
  try simp only [Act.put, List.setIfInBounds_toArray, List.set_cons_zero, List.set_cons_succ]
  refine lv rfl (some 10) rfl (v := ?_) ?_ ?_
  rotate_left
  · go_simp; (try simp only [IntKind.wrap_i64, Int.reduceAdd, Int.reduceSub, Int.reduceMod, Int.reducePow, Int.reduceNeg]); try with_reducible rfl
  try simp only [Act.put, List.setIfInBounds_toArray, List.set_cons_zero, List.set_cons_succ]
  refine wpList_nil ?_
  go_wp2_with fail
  rw [rounds_succ]
  go_upto_region 11 with fail
  refine wp_region_lit ?_
  refine lv rfl (some 45) rfl (v := ?_) ?_ ?_
  rotate_left
  · go_simp; (try simp only [IntKind.wrap_i64, Int.reduceAdd, Int.reduceSub, Int.reduceMod, Int.reducePow, Int.reduceNeg]); try with_reducible rfl
  try simp only [Act.put, List.setIfInBounds_toArray, List.set_cons_zero, List.set_cons_succ]
  refine lv rfl (some 46) rfl (v := ?_) ?_ ?_
  rotate_left
  · go_simp; (try simp only [IntKind.wrap_i64, Int.reduceAdd, Int.reduceSub, Int.reduceMod, Int.reducePow, Int.reduceNeg]); try with_reducible rfl
  try simp only [Act.put, List.setIfInBounds_toArray, List.set_cons_zero, List.set_cons_succ]
  refine wpList_nil ?_
  go_upto_region 13 with fail
  refine wp_region_lit ?_
  refine lv rfl (some 49) rfl (v := ?_) ?_ ?_
  rotate_left
  · go_simp; (try simp only [IntKind.wrap_i64, Int.reduceAdd, Int.reduceSub, Int.reduceMod, Int.reducePow, Int.reduceNeg]); try with_reducible rfl
  try simp only [Act.put, List.setIfInBounds_toArray, List.set_cons_zero, List.set_cons_succ]
  refine lv rfl (some 50) rfl (v := ?_) ?_ ?_
  rotate_left
  · go_simp; (try simp only [IntKind.wrap_i64, Int.reduceAdd, Int.reduceSub, Int.reduceMod, Int.reducePow, Int.reduceNeg]); try with_reducible rfl
  try simp only [Act.put, List.setIfInBounds_toArray, List.set_cons_zero, List.set_cons_succ]
  refine l_cell M8 1 rfl 5 (.tmp 50) _ rfl rfl rfl _ rfl _ rfl (by kernel_rfl) (by kernel_rfl) rfl rfl (a16 (zr X 11 13)) (by kernel_rfl) _ rfl (fun s9 M9 => ?_)
  clear M8
  try simp only [List.cons_append, List.nil_append, List.set_cons_zero, List.set_cons_succ] at M9
  try simp only [Act.put, List.setIfInBounds_toArray, List.set_cons_zero, List.set_cons_succ]
  refine wpList_nil ?_
  go_upto_region 12 with fail
  refine wp_region_lit ?_
  refine lv rfl (some 47) rfl (v := ?_) ?_ ?_
  rotate_left
  · go_simp; (try simp only [IntKind.wrap_i64, Int.reduceAdd, Int.reduceSub, Int.reduceMod, Int.reducePow, Int.reduceNeg]); try with_reducible rfl
  try simp only [Act.put, List.setIfInBounds_toArray, List.set_cons_zero, List.set_cons_succ]
  refine lv rfl (some 48) rfl (v := ?_) ?_ ?_
  rotate_left
  · go_simp; (try simp only [IntKind.wrap_i64, Int.reduceAdd, Int.reduceSub, Int.reduceMod, Int.reducePow, Int.reduceNeg]); try with_reducible rfl
  try simp only [Act.put, List.setIfInBounds_toArray, List.set_cons_zero, List.set_cons_succ]
  refine lv rfl (some 10) rfl (v := ?_) ?_ ?_
  rotate_left
  · go_simp; (try simp only [IntKind.wrap_i64, Int.reduceAdd, Int.reduceSub, Int.reduceMod, Int.reducePow, Int.reduceNeg]); try with_reducible rfl
  try simp only [Act.put, List.setIfInBounds_toArray, List.set_cons_zero, List.set_cons_succ]
  refine wpList_nil ?_
  go_wp2_with fail
  rw [rounds_succ]
  go_upto_region 11 with fail
  refine wp_region_lit ?_
  refine lv rfl (some 45) rfl (v := ?_) ?_ ?_
  rotate_left
  · go_simp; (try simp only [IntKind.wrap_i64, Int.reduceAdd, Int.reduceSub, Int.reduceMod, Int.reducePow, Int.reduceNeg]); try with_reducible rfl
  try simp only [Act.put, List.setIfInBounds_toArray, List.set_cons_zero, List.set_cons_succ]
  refine lv rfl (some 46) rfl (v := ?_) ?_ ?_
  rotate_left
  · go_simp; (try simp only [IntKind.wrap_i64, Int.reduceAdd, Int.reduceSub, Int.reduceMod, Int.reducePow, Int.reduceNeg]); try with_reducible rfl
  try simp only [Act.put, List.setIfInBounds_toArray, List.set_cons_zero, List.set_cons_succ]
  refine wpList_nil ?_
  go_upto_region 13 with fail
  refine wp_region_lit ?_
  refine lv rfl (some 49) rfl (v := ?_) ?_ ?_
  rotate_left
  · go_simp; (try simp only [IntKind.wrap_i64, Int.reduceAdd, Int.reduceSub, Int.reduceMod, Int.reducePow, Int.reduceNeg]); try with_reducible rfl
  try simp only [Act.put, List.setIfInBounds_toArray, List.set_cons_zero, List.set_cons_succ]
  refine lv rfl (some 50) rfl (v := ?_) ?_ ?_
  rotate_left
  · go_simp; (try simp only [IntKind.wrap_i64, Int.reduceAdd, Int.reduceSub, Int.reduceMod, Int.reducePow, Int.reduceNeg]); try with_reducible rfl
  try simp only [Act.put, List.setIfInBounds_toArray, List.set_cons_zero, List.set_cons_succ]
  refine l_cell M9 1 rfl 5 (.tmp 50) _ rfl rfl rfl _ rfl _ rfl (by kernel_rfl) (by kernel_rfl) rfl rfl (a16 (zr X 11 14)) (by kernel_rfl) _ rfl (fun s10 M10 => ?_)
  clear M9
  try simp only [List.cons_append, List.nil_append, List.set_cons_zero, List.set_cons_succ] at M10
  try simp only [Act.put, List.setIfInBounds_toArray, List.set_cons_zero, List.set_cons_succ]
  refine wpList_nil ?_
  go_upto_region 12 with fail
  refine wp_region_lit ?_
  refine lv rfl (some 47) rfl (v := ?_) ?_ ?_
  rotate_left
  · go_simp; (try simp only [IntKind.wrap_i64, Int.reduceAdd, Int.reduceSub, Int.reduceMod, Int.reducePow, Int.reduceNeg]); try with_reducible rfl
  try simp only [Act.put, List.setIfInBounds_toArray, List.set_cons_zero, List.set_cons_succ]
  refine lv rfl (some 48) rfl (v := ?_) ?_ ?_
  rotate_left
  · go_simp; (try simp only [IntKind.wrap_i64, Int.reduceAdd, Int.reduceSub, Int.reduceMod, Int.reducePow, Int.reduceNeg]); try with_reducible rfl
  try simp only [Act.put, List.setIfInBounds_toArray, List.set_cons_zero, List.set_cons_succ]
  refine lv rfl (some 10) rfl (v := ?_) ?_ ?_
  rotate_left
  · go_simp; (try simp only [IntKind.wrap_i64, Int.reduceAdd, Int.reduceSub, Int.reduceMod, Int.reducePow, Int.reduceNeg]); try with_reducible rfl
  try simp only [Act.put, List.setIfInBounds_toArray, List.set_cons_zero, List.set_cons_succ]
  refine wpList_nil ?_
  go_wp2_with fail
  rw [rounds_succ]
  go_upto_region 11 with fail
  refine wp_region_lit ?_
  refine lv rfl (some 45) rfl (v := ?_) ?_ ?_
  rotate_left
  · go_simp; (try simp only [IntKind.wrap_i64, Int.reduceAdd, Int.reduceSub, Int.reduceMod, Int.reducePow, Int.reduceNeg]); try with_reducible rfl
  try simp only [Act.put, List.setIfInBounds_toArray, List.set_cons_zero, List.set_cons_succ]
  refine lv rfl (some 46) rfl (v := ?_) ?_ ?_
  rotate_left
  · go_simp; (try simp only [IntKind.wrap_i64, Int.reduceAdd, Int.reduceSub, Int.reduceMod, Int.reducePow, Int.reduceNeg]); try with_reducible rfl
  try simp only [Act.put, List.setIfInBounds_toArray, List.set_cons_zero, List.set_cons_succ]
  refine wpList_nil ?_
  go_upto_region 13 with fail
  refine wp_region_lit ?_
  refine lv rfl (some 49) rfl (v := ?_) ?_ ?_
  rotate_left
  · go_simp; (try simp only [IntKind.wrap_i64, Int.reduceAdd, Int.reduceSub, Int.reduceMod, Int.reducePow, Int.reduceNeg]); try with_reducible rfl
  try simp only [Act.put, List.setIfInBounds_toArray, List.set_cons_zero, List.set_cons_succ]
  refine lv rfl (some 50) rfl (v := ?_) ?_ ?_
  rotate_left
  · go_simp; (try simp only [IntKind.wrap_i64, Int.reduceAdd, Int.reduceSub, Int.reduceMod, Int.reducePow, Int.reduceNeg]); try with_reducible rfl
  try simp only [Act.put, List.setIfInBounds_toArray, List.set_cons_zero, List.set_cons_succ]
  refine l_cell M10 1 rfl 5 (.tmp 50) _ rfl rfl rfl _ rfl _ rfl (by kernel_rfl) (by kernel_rfl) rfl rfl (a16 (zr X 11 15)) (by kernel_rfl) _ rfl (fun s11 M11 => ?_)
  clear M10
  try simp only [List.cons_append, List.nil_append, List.set_cons_zero, List.set_cons_succ] at M11
  try simp only [Act.put, List.setIfInBounds_toArray, List.set_cons_zero, List.set_cons_succ]
  refine wpList_nil ?_
  go_upto_region 12 with fail
  refine wp_region_lit ?_
  refine lv rfl (some 47) rfl (v := ?_) ?_ ?_
  rotate_left
  · go_simp; (try simp only [IntKind.wrap_i64, Int.reduceAdd, Int.reduceSub, Int.reduceMod, Int.reducePow, Int.reduceNeg]); try with_reducible rfl
  try simp only [Act.put, List.setIfInBounds_toArray, List.set_cons_zero, List.set_cons_succ]
  refine lv rfl (some 48) rfl (v := ?_) ?_ ?_
  rotate_left
  · go_simp; (try simp only [IntKind.wrap_i64, Int.reduceAdd, Int.reduceSub, Int.reduceMod, Int.reducePow, Int.reduceNeg]); try with_reducible rfl
  try simp only [Act.put, List.setIfInBounds_toArray, List.set_cons_zero, List.set_cons_succ]
  refine lv rfl (some 10) rfl (v := ?_) ?_ ?_
  rotate_left
  · go_simp; (try simp only [IntKind.wrap_i64, Int.reduceAdd, Int.reduceSub, Int.reduceMod, Int.reducePow, Int.reduceNeg]); try with_reducible rfl
  try simp only [Act.put, List.setIfInBounds_toArray, List.set_cons_zero, List.set_cons_succ]
  refine wpList_nil ?_
  go_wp2_with fail
  rw [rounds_succ]
  go_upto_region 11 with fail
  refine wp_region_lit ?_
  refine lv rfl (some 45) rfl (v := ?_) ?_ ?_
  rotate_left
  · go_simp; (try simp only [IntKind.wrap_i64, Int.reduceAdd, Int.reduceSub, Int.reduceMod, Int.reducePow, Int.reduceNeg]); try with_reducible rfl
  try simp only [Act.put, List.setIfInBounds_toArray, List.set_cons_zero, List.set_cons_succ]
  refine lv rfl (some 46) rfl (v := ?_) ?_ ?_
  rotate_left
  · go_simp; (try simp only [IntKind.wrap_i64, Int.reduceAdd, Int.reduceSub, Int.reduceMod, Int.reducePow, Int.reduceNeg]); try with_reducible rfl
  try simp only [Act.put, List.setIfInBounds_toArray, List.set_cons_zero, List.set_cons_succ]
  refine wpList_nil ?_
  go_upto_region 13 with fail
  refine wp_region_lit ?_
  refine lv rfl (some 49) rfl (v := ?_) ?_ ?_
  rotate_left
  · go_simp; (try simp only [IntKind.wrap_i64, Int.reduceAdd, Int.reduceSub, Int.reduceMod, Int.reducePow, Int.reduceNeg]); try with_reducible rfl
  try simp only [Act.put, List.setIfInBounds_toArray, List.set_cons_zero, List.set_cons_succ]
  refine lv rfl (some 50) rfl (v := ?_) ?_ ?_
  rotate_left
  · go_simp; (try simp only [IntKind.wrap_i64, Int.reduceAdd, Int.reduceSub, Int.reduceMod, Int.reducePow, Int.reduceNeg]); try with_reducible rfl
  try simp only [Act.put, List.setIfInBounds_toArray, List.set_cons_zero, List.set_cons_succ]
  refine l_cell M11 1 rfl 5 (.tmp 50) _ rfl rfl rfl _ rfl _ rfl (by kernel_rfl) (by kernel_rfl) rfl rfl (a16 (zr X 11 16)) (by kernel_rfl) _ rfl (fun s12 M12 => ?_)
  clear M11
  try simp only [List.cons_append, List.nil_append, List.set_cons_zero, List.set_cons_succ] at M12
  try simp only [Act.put, List.setIfInBounds_toArray, List.set_cons_zero, List.set_cons_succ]
  refine wpList_nil ?_
  go_upto_region 12 with fail
  refine wp_region_lit ?_
  refine lv rfl (some 47) rfl (v := ?_) ?_ ?_
  rotate_left
  · go_simp; (try simp only [IntKind.wrap_i64, Int.reduceAdd, Int.reduceSub, Int.reduceMod, Int.reducePow, Int.reduceNeg]); try with_reducible rfl
  try simp only [Act.put, List.setIfInBounds_toArray, List.set_cons_zero, List.set_cons_succ]
  refine lv rfl (some 48) rfl (v := ?_) ?_ ?_
  rotate_left
  · go_simp; (try simp only [IntKind.wrap_i64, Int.reduceAdd, Int.reduceSub, Int.reduceMod, Int.reducePow, Int.reduceNeg]); try with_reducible rfl
  try simp only [Act.put, List.setIfInBounds_toArray, List.set_cons_zero, List.set_cons_succ]
  refine lv rfl (some 10) rfl (v := ?_) ?_ ?_
  rotate_left
  · go_simp; (try simp only [IntKind.wrap_i64, Int.reduceAdd, Int.reduceSub, Int.reduceMod, Int.reducePow, Int.reduceNeg]); try with_reducible rfl
  try simp only [Act.put, List.setIfInBounds_toArray, List.set_cons_zero, List.set_cons_succ]
  refine wpList_nil ?_
  go_wp2_with fail
  rw [rounds_succ]
  go_upto_region 11 with fail
  refine wp_region_lit ?_
  refine lv rfl (some 45) rfl (v := ?_) ?_ ?_
  rotate_left
  · go_simp; (try simp only [IntKind.wrap_i64, Int.reduceAdd, Int.reduceSub, Int.reduceMod, Int.reducePow, Int.reduceNeg]); try with_reducible rfl
  try simp only [Act.put, List.setIfInBounds_toArray, List.set_cons_zero, List.set_cons_succ]
  refine lv rfl (some 46) rfl (v := ?_) ?_ ?_
  rotate_left
  · go_simp; (try simp only [IntKind.wrap_i64, Int.reduceAdd, Int.reduceSub, Int.reduceMod, Int.reducePow, Int.reduceNeg]); try with_reducible rfl
  try simp only [Act.put, List.setIfInBounds_toArray, List.set_cons_zero, List.set_cons_succ]
  refine wpList_nil ?_
  go_upto_region 14 with fail
  refine wp_region_lit ?_
  refine lv rfl (some 51) rfl (v := ?_) ?_ ?_
  rotate_left
  · go_simp; (try simp only [IntKind.wrap_i64, Int.reduceAdd, Int.reduceSub, Int.reduceMod, Int.reducePow, Int.reduceNeg]); try with_reducible rfl
  try simp only [Act.put, List.setIfInBounds_toArray, List.set_cons_zero, List.set_cons_succ]
  refine lv rfl (some 52) rfl (v := ?_) ?_ ?_
  rotate_left
  · go_simp; (try simp only [IntKind.wrap_i64, Int.reduceAdd, Int.reduceSub, Int.reduceMod, Int.reducePow, Int.reduceNeg]); try with_reducible rfl
  try simp only [Act.put, List.setIfInBounds_toArray, List.set_cons_zero, List.set_cons_succ]
  refine ly M12 (some 53) rfl (yi_row 0 26 (.tmp 2) rfl rfl rfl rfl Try.underlying26 rfl (by kernel_rfl)) ?_
  try simp only [Act.put, List.setIfInBounds_toArray, List.set_cons_zero, List.set_cons_succ]
  refine ly M12 (some 54) rfl (yi_row 1 23 (.tmp 3) rfl rfl rfl rfl Try.underlying23 rfl (by kernel_rfl)) ?_
  try simp only [Act.put, List.setIfInBounds_toArray, List.set_cons_zero, List.set_cons_succ]
  refine l_call rfl (some 55) rfl (c19 _) (by kernel_rfl) (fun s13 hb13 => ?_)
  have M13 := M12.call hb13
  clear hb13 M12
  try simp only [Act.put, List.setIfInBounds_toArray, List.set_cons_zero, List.set_cons_succ]
  refine lv rfl (some 56) rfl (v := ?_) ?_ ?_
  rotate_left
  · go_simp; (try simp only [IntKind.wrap_i64, Int.reduceAdd, Int.reduceSub, Int.reduceMod, Int.reducePow, Int.reduceNeg]); try with_reducible rfl
  try simp only [Act.put, List.setIfInBounds_toArray, List.set_cons_zero, List.set_cons_succ]
  refine lv rfl (some 57) rfl (v := ?_) ?_ ?_
  rotate_left
  · go_simp; (try simp only [IntKind.wrap_i64, Int.reduceAdd, Int.reduceSub, Int.reduceMod, Int.reducePow, Int.reduceNeg]); try with_reducible rfl
  try simp only [Act.put, List.setIfInBounds_toArray, List.set_cons_zero, List.set_cons_succ]
  refine ly M13 (some 58) rfl (yi_row 3 23 (.tmp 7) rfl rfl rfl rfl Try.underlying23 rfl (by kernel_rfl)) ?_
  try simp only [Act.put, List.setIfInBounds_toArray, List.set_cons_zero, List.set_cons_succ]
  refine ly M13 (some 59) rfl (yi_row 1 23 (.tmp 3) rfl rfl rfl rfl Try.underlying23 rfl (by kernel_rfl)) ?_
  try simp only [Act.put, List.setIfInBounds_toArray, List.set_cons_zero, List.set_cons_succ]
  refine lv rfl (some 60) rfl (v := ?_) ?_ ?_
  rotate_left
  · go_simp; (try simp only [IntKind.wrap_i64, Int.reduceAdd, Int.reduceSub, Int.reduceMod, Int.reducePow, Int.reduceNeg]); try with_reducible rfl
  try simp only [Act.put, List.setIfInBounds_toArray, List.set_cons_zero, List.set_cons_succ]
  refine lv rfl (some 61) rfl (v := ?_) ?_ ?_
  rotate_left
  · go_simp; (try simp only [IntKind.wrap_i64, Int.reduceAdd, Int.reduceSub, Int.reduceMod, Int.reducePow, Int.reduceNeg]); try with_reducible rfl
  try simp only [Act.put, List.setIfInBounds_toArray, List.set_cons_zero, List.set_cons_succ]
  refine lv rfl (some 4) rfl (v := ?_) ?_ ?_
  rotate_left
  · go_simp; (try simp only [IntKind.wrap_i64, Int.reduceAdd, Int.reduceSub, Int.reduceMod, Int.reducePow, Int.reduceNeg]); try with_reducible rfl
  try simp only [Act.put, List.setIfInBounds_toArray, List.set_cons_zero, List.set_cons_succ]
  refine wpList_nil ?_
  go_wp2_with fail
  go_ret
  exact ⟨rfl, M13.below⟩
set_option maxRecDepth 100000 in
set_option maxHeartbeats 4000000 in
theorem once_56 (P X : Nat → Int) (w : World) (bp : Bytes 16 P) (bx : Bytes 16 X) (h : InsideP P X 56) (h8 : X 8 = 0) : Calls Try.prog 7 #[net P 56, .agg (a16 X)] w fun e w' => e = .returned (.bool true) ∧ Below w.heap.size w w' := by
  have c12 := fun w => extract_t bp bx h h8 w
  have c10 := fun w => embed_t h.1 (ext X 56) w
  have c19 := fun w => inside_t bp (zr_bytes bx 12 16) (zr_inside h (lo := 12) (by decide) 16) w
  have he : ∀ w, (Op.equalIn 10000 23 (.agg (a16 (emb P (ext X 56) 56))) (.agg (a16 (zr X 12 16)))).run Try.prog w = .ok true w := fun w => eq16 (r := true) (by
    simp only [true_iff]
    refine once_eq h h8 ?_ ?_ (by decide)
    · intro k hk; match k, hk with | 0, _ => decide | 1, _ => decide | 2, _ => decide | 3, _ => decide | k + 4, h => exact absurd h (by omega)
    · intro j hj hj2
      have hj2 : 7 ≤ j := hj2
      rcases (by omega : j = 7 ∨ j = 8 ∨ j = 9 ∨ j = 10 ∨ j = 11) with rfl | rfl | rfl | rfl | rfl
      · exact .inr ⟨0, by omega, rfl⟩
      · exact .inl rfl
      · exact .inr ⟨1, by omega, rfl⟩
      · exact .inr ⟨2, by omega, rfl⟩
      · exact .inr ⟨3, by omega, rfl⟩) w
  clear bp bx h h8
  go_enter Try.func7, Try.ntmps7
  go_upto_region 1 with fail
  have M0 := Mem.two w 26 23 #[.int .u8 (P 0), .int .u8 (P 1), .int .u8 (P 2), .int .u8 (P 3), .int .u8 (P 4), .int .u8 (P 5), .int .u8 (P 6), .int .u8 (P 7), .int .u8 (P 8), .int .u8 (P 9), .int .u8 (P 10), .int .u8 (P 11), .int .u8 (P 12), .int .u8 (P 13), .int .u8 (P 14), .int .u8 (P 15), .int .i64 56] (a16 X)
  refine wp_region_lit ?_
  refine l_call rfl (some 11) rfl (awake_any _) (by kernel_rfl) (fun s1 hb1 => ?_)
  have M1 := M0.call hb1
  clear hb1 M0
  try simp only [Act.put, List.setIfInBounds_toArray, List.set_cons_zero, List.set_cons_succ]
  refine lv rfl (some 12) rfl (v := ?_) ?_ ?_
  rotate_left
  · go_simp; (try simp only [IntKind.wrap_i64, Int.reduceAdd, Int.reduceSub, Int.reduceMod, Int.reducePow, Int.reduceNeg]); try with_reducible rfl
  try simp only [Act.put, List.setIfInBounds_toArray, List.set_cons_zero, List.set_cons_succ]
  refine wpList_nil ?_
  go_upto_region 3 with fail
  refine wp_region_lit ?_
  refine ly M1 (some 14) rfl (yi_row 0 26 (.tmp 2) rfl rfl rfl rfl Try.underlying26 rfl (by kernel_rfl)) ?_
  try simp only [Act.put, List.setIfInBounds_toArray, List.set_cons_zero, List.set_cons_succ]
  refine ly M1 (some 15) rfl (yi_row 1 23 (.tmp 3) rfl rfl rfl rfl Try.underlying23 rfl (by kernel_rfl)) ?_
  try simp only [Act.put, List.setIfInBounds_toArray, List.set_cons_zero, List.set_cons_succ]
  refine l_call rfl (some 16) rfl (c12 _) (by kernel_rfl) (fun s2 hb2 => ?_)
  have M2 := M1.call hb2
  clear hb2 M1
  try simp only [Act.put, List.setIfInBounds_toArray, List.set_cons_zero, List.set_cons_succ]
  refine lv rfl (some 13) rfl (v := ?_) ?_ ?_
  rotate_left
  · go_simp; (try simp only [IntKind.wrap_i64, Int.reduceAdd, Int.reduceSub, Int.reduceMod, Int.reducePow, Int.reduceNeg]); try with_reducible rfl
  try simp only [Act.put, List.setIfInBounds_toArray, List.set_cons_zero, List.set_cons_succ]
  refine lv rfl (some 17) rfl (v := ?_) ?_ ?_
  rotate_left
  · go_simp; (try simp only [IntKind.wrap_i64, Int.reduceAdd, Int.reduceSub, Int.reduceMod, Int.reducePow, Int.reduceNeg]); try with_reducible rfl
  try simp only [Act.put, List.setIfInBounds_toArray, List.set_cons_zero, List.set_cons_succ]
  refine lv rfl (some 18) rfl (v := ?_) ?_ ?_
  rotate_left
  · go_simp; (try simp only [IntKind.wrap_i64, Int.reduceAdd, Int.reduceSub, Int.reduceMod, Int.reducePow, Int.reduceNeg]); try with_reducible rfl
  try simp only [Act.put, List.setIfInBounds_toArray, List.set_cons_zero, List.set_cons_succ]
  refine l_alloc rfl (some 5) rfl #[.int .u8 0, .int .u8 0, .int .u8 0, .int .u8 0] 31 (by kernel_rfl) ?_
  have M3 := M2.new rfl 31 #[.int .u8 0, .int .u8 0, .int .u8 0, .int .u8 0]
  clear M2
  try simp only [List.cons_append, List.nil_append, List.set_cons_zero, List.set_cons_succ] at M3
  try simp only [Act.put, List.setIfInBounds_toArray, List.set_cons_zero, List.set_cons_succ]
  refine l_store M3 2 rfl 31 (.tmp 5) _ rfl rfl rfl rfl _ rfl (by kernel_rfl) (by rfl) (by kernel_rfl) _ rfl (fun s4 M4 => ?_)
  clear M3
  try simp only [List.cons_append, List.nil_append, List.set_cons_zero, List.set_cons_succ] at M4
  try simp only [Act.put, List.setIfInBounds_toArray, List.set_cons_zero, List.set_cons_succ]
  refine lv rfl (some 6) rfl (v := ?_) ?_ ?_
  rotate_left
  · go_simp; (try simp only [IntKind.wrap_i64, Int.reduceAdd, Int.reduceSub, Int.reduceMod, Int.reducePow, Int.reduceNeg]); try with_reducible rfl
  try simp only [Act.put, List.setIfInBounds_toArray, List.set_cons_zero, List.set_cons_succ]
  refine wpList_nil ?_
  go_upto_region 4 with fail
  refine wp_region_lit ?_
  refine lv rfl (some 19) rfl (v := ?_) ?_ ?_
  rotate_left
  · go_simp; (try simp only [IntKind.wrap_i64, Int.reduceAdd, Int.reduceSub, Int.reduceMod, Int.reducePow, Int.reduceNeg]); try with_reducible rfl
  try simp only [Act.put, List.setIfInBounds_toArray, List.set_cons_zero, List.set_cons_succ]
  refine lv rfl (some 20) rfl (v := ?_) ?_ ?_
  rotate_left
  · go_simp; (try simp only [IntKind.wrap_i64, Int.reduceAdd, Int.reduceSub, Int.reduceMod, Int.reducePow, Int.reduceNeg]); try with_reducible rfl
  try simp only [Act.put, List.setIfInBounds_toArray, List.set_cons_zero, List.set_cons_succ]
  refine wpList_nil ?_
  go_upto_region 6 with fail
  refine wp_region_lit ?_
  refine ly M4 (some 25) rfl (yi_row 0 26 (.tmp 2) rfl rfl rfl rfl Try.underlying26 rfl (by kernel_rfl)) ?_
  try simp only [Act.put, List.setIfInBounds_toArray, List.set_cons_zero, List.set_cons_succ]
  refine ly M4 (some 26) rfl (yi_row 2 31 (.tmp 5) rfl rfl rfl rfl Try.underlying31 rfl (by kernel_rfl)) ?_
  try simp only [Act.put, List.setIfInBounds_toArray, List.set_cons_zero, List.set_cons_succ]
  refine l_call rfl (some 27) rfl (c10 _) (by kernel_rfl) (fun s5 hb5 => ?_)
  have M5 := M4.call hb5
  clear hb5 M4
  try simp only [Act.put, List.setIfInBounds_toArray, List.set_cons_zero, List.set_cons_succ]
  refine lv rfl (some 24) rfl (v := ?_) ?_ ?_
  rotate_left
  · go_simp; (try simp only [IntKind.wrap_i64, Int.reduceAdd, Int.reduceSub, Int.reduceMod, Int.reducePow, Int.reduceNeg]); try with_reducible rfl
  try simp only [Act.put, List.setIfInBounds_toArray, List.set_cons_zero, List.set_cons_succ]
  refine lv rfl (some 28) rfl (v := ?_) ?_ ?_
  rotate_left
  · go_simp; (try simp only [IntKind.wrap_i64, Int.reduceAdd, Int.reduceSub, Int.reduceMod, Int.reducePow, Int.reduceNeg]); try with_reducible rfl
  try simp only [Act.put, List.setIfInBounds_toArray, List.set_cons_zero, List.set_cons_succ]
  refine lv rfl (some 29) rfl (v := ?_) ?_ ?_
  rotate_left
  · go_simp; (try simp only [IntKind.wrap_i64, Int.reduceAdd, Int.reduceSub, Int.reduceMod, Int.reducePow, Int.reduceNeg]); try with_reducible rfl
  try simp only [Act.put, List.setIfInBounds_toArray, List.set_cons_zero, List.set_cons_succ]
  refine l_alloc rfl (some 7) rfl #[.int .u8 0, .int .u8 0, .int .u8 0, .int .u8 0, .int .u8 0, .int .u8 0, .int .u8 0, .int .u8 0, .int .u8 0, .int .u8 0, .int .u8 0, .int .u8 0, .int .u8 0, .int .u8 0, .int .u8 0, .int .u8 0] 23 (by kernel_rfl) ?_
  have M6 := M5.new rfl 23 #[.int .u8 0, .int .u8 0, .int .u8 0, .int .u8 0, .int .u8 0, .int .u8 0, .int .u8 0, .int .u8 0, .int .u8 0, .int .u8 0, .int .u8 0, .int .u8 0, .int .u8 0, .int .u8 0, .int .u8 0, .int .u8 0]
  clear M5
  try simp only [List.cons_append, List.nil_append, List.set_cons_zero, List.set_cons_succ] at M6
  try simp only [Act.put, List.setIfInBounds_toArray, List.set_cons_zero, List.set_cons_succ]
  refine l_store M6 3 rfl 23 (.tmp 7) _ rfl rfl rfl rfl _ rfl (by kernel_rfl) (by rfl) (by kernel_rfl) _ rfl (fun s7 M7 => ?_)
  clear M6
  try simp only [List.cons_append, List.nil_append, List.set_cons_zero, List.set_cons_succ] at M7
  try simp only [Act.put, List.setIfInBounds_toArray, List.set_cons_zero, List.set_cons_succ]
  refine lv rfl (some 8) rfl (v := ?_) ?_ ?_
  rotate_left
  · go_simp; (try simp only [IntKind.wrap_i64, Int.reduceAdd, Int.reduceSub, Int.reduceMod, Int.reducePow, Int.reduceNeg]); try with_reducible rfl
  try simp only [Act.put, List.setIfInBounds_toArray, List.set_cons_zero, List.set_cons_succ]
  refine wpList_nil ?_
  go_upto_region 7 with fail
  refine wp_region_lit ?_
  refine lv rfl (some 30) rfl (v := ?_) ?_ ?_
  rotate_left
  · go_simp; (try simp only [IntKind.wrap_i64, Int.reduceAdd, Int.reduceSub, Int.reduceMod, Int.reducePow, Int.reduceNeg]); try with_reducible rfl
  try simp only [Act.put, List.setIfInBounds_toArray, List.set_cons_zero, List.set_cons_succ]
  refine ly M7 (some 31) rfl (yi_cell 0 3 (.tmp 30) rfl rfl rfl _ rfl _ Try.underlying3 rfl) ?_
  try simp only [Act.put, List.setIfInBounds_toArray, List.set_cons_zero, List.set_cons_succ]
  refine lv rfl (some 32) rfl (v := ?_) ?_ ?_
  rotate_left
  · go_simp; (try simp only [IntKind.wrap_i64, Int.reduceAdd, Int.reduceSub, Int.reduceMod, Int.reducePow, Int.reduceNeg]); try with_reducible rfl
  try simp only [Act.put, List.setIfInBounds_toArray, List.set_cons_zero, List.set_cons_succ]
  refine lv rfl (some 33) rfl (v := ?_) ?_ ?_
  rotate_left
  · go_simp; (try simp only [IntKind.wrap_i64, Int.reduceAdd, Int.reduceSub, Int.reduceMod, Int.reducePow, Int.reduceNeg]); try with_reducible rfl
  try simp only [Act.put, List.setIfInBounds_toArray, List.set_cons_zero, List.set_cons_succ]
  refine lv rfl (some 9) rfl (v := ?_) ?_ ?_
  rotate_left
  · go_simp; (try simp only [IntKind.wrap_i64, Int.reduceAdd, Int.reduceSub, Int.reduceMod, Int.reducePow, Int.reduceNeg]); try with_reducible rfl
  try simp only [Act.put, List.setIfInBounds_toArray, List.set_cons_zero, List.set_cons_succ]
  refine wpList_nil ?_
  go_upto_region 8 with fail
  refine wp_region_lit ?_
  refine lv rfl (some 34) rfl (v := ?_) ?_ ?_
  rotate_left
  · go_simp; (try simp only [IntKind.wrap_i64, Int.reduceAdd, Int.reduceSub, Int.reduceMod, Int.reducePow, Int.reduceNeg]); try with_reducible rfl
  try simp only [Act.put, List.setIfInBounds_toArray, List.set_cons_zero, List.set_cons_succ]
  refine ly M7 (some 35) rfl (yi_cell 0 3 (.tmp 34) rfl rfl rfl _ rfl _ Try.underlying3 rfl) ?_
  try simp only [Act.put, List.setIfInBounds_toArray, List.set_cons_zero, List.set_cons_succ]
  refine lv rfl (some 36) rfl (v := ?_) ?_ ?_
  rotate_left
  · go_simp; (try simp only [IntKind.wrap_i64, Int.reduceAdd, Int.reduceSub, Int.reduceMod, Int.reducePow, Int.reduceNeg]); try with_reducible rfl
  try simp only [Act.put, List.setIfInBounds_toArray, List.set_cons_zero, List.set_cons_succ]
  refine lv rfl (some 37) rfl (v := ?_) ?_ ?_
  rotate_left
  · go_simp; (try simp only [IntKind.wrap_i64, Int.reduceAdd, Int.reduceSub, Int.reduceMod, Int.reducePow, Int.reduceNeg]); try with_reducible rfl
  try simp only [Act.put, List.setIfInBounds_toArray, List.set_cons_zero, List.set_cons_succ]
  refine lv rfl (some 38) rfl (v := ?_) ?_ ?_
  rotate_left
  · go_simp; (try simp only [IntKind.wrap_i64, Int.reduceAdd, Int.reduceSub, Int.reduceMod, Int.reducePow, Int.reduceNeg]); try with_reducible rfl
  try simp only [Act.put, List.setIfInBounds_toArray, List.set_cons_zero, List.set_cons_succ]
  refine ly M7 (some 39) rfl (yi_cell 0 3 (.tmp 38) rfl rfl rfl _ rfl _ Try.underlying3 rfl) ?_
  try simp only [Act.put, List.setIfInBounds_toArray, List.set_cons_zero, List.set_cons_succ]
  refine lv rfl (some 40) rfl (v := ?_) ?_ ?_
  rotate_left
  · go_simp; (try simp only [IntKind.wrap_i64, Int.reduceAdd, Int.reduceSub, Int.reduceMod, Int.reducePow, Int.reduceNeg]); try with_reducible rfl
  try simp only [Act.put, List.setIfInBounds_toArray, List.set_cons_zero, List.set_cons_succ]
  refine lv rfl (some 41) rfl (v := ?_) ?_ ?_
  rotate_left
  · go_simp; (try simp only [IntKind.wrap_i64, Int.reduceAdd, Int.reduceSub, Int.reduceMod, Int.reducePow, Int.reduceNeg]); try with_reducible rfl
  try simp only [Act.put, List.setIfInBounds_toArray, List.set_cons_zero, List.set_cons_succ]
  refine wpList_nil ?_
  go_upto_region 9 with fail
  refine wp_region_lit ?_
  refine lv rfl (some 42) rfl (v := ?_) ?_ ?_
  rotate_left
  · go_simp; (try simp only [IntKind.wrap_i64, Int.reduceAdd, Int.reduceSub, Int.reduceMod, Int.reducePow, Int.reduceNeg]); try with_reducible rfl
  try simp only [Act.put, List.setIfInBounds_toArray, List.set_cons_zero, List.set_cons_succ]
  refine lv rfl (some 43) rfl (v := ?_) ?_ ?_
  rotate_left
  · go_simp; (try simp only [IntKind.wrap_i64, Int.reduceAdd, Int.reduceSub, Int.reduceMod, Int.reducePow, Int.reduceNeg]); try with_reducible rfl
  try simp only [Act.put, List.setIfInBounds_toArray, List.set_cons_zero, List.set_cons_succ]
  refine lv rfl (some 9) rfl (v := ?_) ?_ ?_
  rotate_left
  · go_simp; (try simp only [IntKind.wrap_i64, Int.reduceAdd, Int.reduceSub, Int.reduceMod, Int.reducePow, Int.reduceNeg]); try with_reducible rfl
  try simp only [Act.put, List.setIfInBounds_toArray, List.set_cons_zero, List.set_cons_succ]
  refine wpList_nil ?_
  go_upto_region 10 with fail
  refine wp_region_lit ?_
  refine lv rfl (some 44) rfl (v := ?_) ?_ ?_
  rotate_left
  · go_simp; (try simp only [IntKind.wrap_i64, Int.reduceAdd, Int.reduceSub, Int.reduceMod, Int.reducePow, Int.reduceNeg]); try with_reducible rfl
  try simp only [Act.put, List.setIfInBounds_toArray, List.set_cons_zero, List.set_cons_succ]
  refine lv rfl (some 10) rfl (v := ?_) ?_ ?_
  rotate_left
  · go_simp; (try simp only [IntKind.wrap_i64, Int.reduceAdd, Int.reduceSub, Int.reduceMod, Int.reducePow, Int.reduceNeg]); try with_reducible rfl
  try simp only [Act.put, List.setIfInBounds_toArray, List.set_cons_zero, List.set_cons_succ]
  refine wpList_nil ?_
  go_wp2_with fail
  refine wp_loop_rounds 5 ?_
  rw [rounds_succ]
  go_upto_region 11 with fail
  refine wp_region_lit ?_
  refine lv rfl (some 45) rfl (v := ?_) ?_ ?_
  rotate_left
  · go_simp; (try simp only [IntKind.wrap_i64, Int.reduceAdd, Int.reduceSub, Int.reduceMod, Int.reducePow, Int.reduceNeg]); try with_reducible rfl
  try simp only [Act.put, List.setIfInBounds_toArray, List.set_cons_zero, List.set_cons_succ]
  refine lv rfl (some 46) rfl (v := ?_) ?_ ?_
  rotate_left
  · go_simp; (try simp only [IntKind.wrap_i64, Int.reduceAdd, Int.reduceSub, Int.reduceMod, Int.reducePow, Int.reduceNeg]); try with_reducible rfl
  try simp only [Act.put, List.setIfInBounds_toArray, List.set_cons_zero, List.set_cons_succ]
  refine wpList_nil ?_
  go_upto_region 13 with fail
  refine wp_region_lit ?_
  refine lv rfl (some 49) rfl (v := ?_) ?_ ?_
  rotate_left
  · go_simp; (try simp only [IntKind.wrap_i64, Int.reduceAdd, Int.reduceSub, Int.reduceMod, Int.reducePow, Int.reduceNeg]); try with_reducible rfl
  try simp only [Act.put, List.setIfInBounds_toArray, List.set_cons_zero, List.set_cons_succ]
  refine lv rfl (some 50) rfl (v := ?_) ?_ ?_
  rotate_left
  · go_simp; (try simp only [IntKind.wrap_i64, Int.reduceAdd, Int.reduceSub, Int.reduceMod, Int.reducePow, Int.reduceNeg]); try with_reducible rfl
  try simp only [Act.put, List.setIfInBounds_toArray, List.set_cons_zero, List.set_cons_succ]
  refine l_cell M7 1 rfl 5 (.tmp 50) _ rfl rfl rfl _ rfl _ rfl (by kernel_rfl) (by kernel_rfl) rfl rfl (a16 (zr X 12 13)) (by kernel_rfl) _ rfl (fun s8 M8 => ?_)
  clear M7
  try simp only [List.cons_append, List.nil_append, List.set_cons_zero, List.set_cons_succ] at M8
  try simp only [Act.put, List.setIfInBounds_toArray, List.set_cons_zero, List.set_cons_succ]
  refine wpList_nil ?_
  go_upto_region 12 with fail
  refine wp_region_lit ?_
  refine lv rfl (some 47) rfl (v := ?_) ?_ ?_
  rotate_left
  · go_simp; (try simp only [IntKind.wrap_i64, Int.reduceAdd, Int.reduceSub, Int.reduceMod, Int.reducePow, Int.reduceNeg]); try with_reducible rfl
  try simp only [Act.put, List.setIfInBounds_toArray, List.set_cons_zero, List.set_cons_succ]
  refine lv rfl (some 48) rfl (v := ?_) ?_ ?_
  rotate_left
  · go_simp; (try simp only [IntKind.wrap_i64, Int.reduceAdd, Int.reduceSub, Int.reduceMod, Int.reducePow, Int.reduceNeg]); try with_reducible rfl
  try simp only [Act.put, List.setIfInBounds_toArray, List.set_cons_zero, List.set_cons_succ]
  refine lv rfl (some 10) rfl (v := ?_) ?_ ?_
  rotate_left
  · go_simp; (try simp only [IntKind.wrap_i64, Int.reduceAdd, Int.reduceSub, Int.reduceMod, Int.reducePow, Int.reduceNeg]); try with_reducible rfl
  try simp only [Act.put, List.setIfInBounds_toArray, List.set_cons_zero, List.set_cons_succ]
  refine wpList_nil ?_
  go_wp2_with fail
  rw [rounds_succ]
  go_upto_region 11 with fail
  refine wp_region_lit ?_
  refine lv rfl (some 45) rfl (v := ?_) ?_ ?_
  rotate_left
  · go_simp; (try simp only [IntKind.wrap_i64, Int.reduceAdd, Int.reduceSub, Int.reduceMod, Int.reducePow, Int.reduceNeg]); try with_reducible rfl
  try simp only [Act.put, List.setIfInBounds_toArray, List.set_cons_zero, List.set_cons_succ]
  refine lv rfl (some 46) rfl (v := ?_) ?_ ?_
  rotate_left
  · go_simp; (try simp only [IntKind.wrap_i64, Int.reduceAdd, Int.reduceSub, Int.reduceMod, Int.reducePow, Int.reduceNeg]); try with_reducible rfl
  try simp only [Act.put, List.setIfInBounds_toArray, List.set_cons_zero, List.set_cons_succ]
  refine wpList_nil ?_
  go_upto_region 13 with fail
  refine wp_region_lit ?_
  refine lv rfl (some 49) rfl (v := ?_) ?_ ?_
  rotate_left
  · go_simp; (try simp only [IntKind.wrap_i64, Int.reduceAdd, Int.reduceSub, Int.reduceMod, Int.reducePow, Int.reduceNeg]); try with_reducible rfl
  try simp only [Act.put, List.setIfInBounds_toArray, List.set_cons_zero, List.set_cons_succ]
  refine lv rfl (some 50) rfl (v := ?_) ?_ ?_
  rotate_left
  · go_simp; (try simp only [IntKind.wrap_i64, Int.reduceAdd, Int.reduceSub, Int.reduceMod, Int.reducePow, Int.reduceNeg]); try with_reducible rfl
  try simp only [Act.put, List.setIfInBounds_toArray, List.set_cons_zero, List.set_cons_succ]
  refine l_cell M8 1 rfl 5 (.tmp 50) _ rfl rfl rfl _ rfl _ rfl (by kernel_rfl) (by kernel_rfl) rfl rfl (a16 (zr X 12 14)) (by kernel_rfl) _ rfl (fun s9 M9 => ?_)
  clear M8
  try simp only [List.cons_append, List.nil_append, List.set_cons_zero, List.set_cons_succ] at M9
  try simp only [Act.put, List.setIfInBounds_toArray, List.set_cons_zero, List.set_cons_succ]
  refine wpList_nil ?_
  go_upto_region 12 with fail
  refine wp_region_lit ?_
  refine lv rfl (some 47) rfl (v := ?_) ?_ ?_
  rotate_left
  · go_simp; (try simp only [IntKind.wrap_i64, Int.reduceAdd, Int.reduceSub, Int.reduceMod, Int.reducePow, Int.reduceNeg]); try with_reducible rfl
  try simp only [Act.put, List.setIfInBounds_toArray, List.set_cons_zero, List.set_cons_succ]
  refine lv rfl (some 48) rfl (v := ?_) ?_ ?_
  rotate_left
  · go_simp; (try simp only [IntKind.wrap_i64, Int.reduceAdd, Int.reduceSub, Int.reduceMod, Int.reducePow, Int.reduceNeg]); try with_reducible rfl
  try simp only [Act.put, List.setIfInBounds_toArray, List.set_cons_zero, List.set_cons_succ]
  refine lv rfl (some 10) rfl (v := ?_) ?_ ?_
  rotate_left
  · go_simp; (try simp only [IntKind.wrap_i64, Int.reduceAdd, Int.reduceSub, Int.reduceMod, Int.reducePow, Int.reduceNeg]); try with_reducible rfl
  try simp only [Act.put, List.setIfInBounds_toArray, List.set_cons_zero, List.set_cons_succ]
  refine wpList_nil ?_
  go_wp2_with fail
  rw [rounds_succ]
  go_upto_region 11 with fail
  refine wp_region_lit ?_
  refine lv rfl (some 45) rfl (v := ?_) ?_ ?_
  rotate_left
  · go_simp; (try simp only [IntKind.wrap_i64, Int.reduceAdd, Int.reduceSub, Int.reduceMod, Int.reducePow, Int.reduceNeg]); try with_reducible rfl
  try simp only [Act.put, List.setIfInBounds_toArray, List.set_cons_zero, List.set_cons_succ]
  refine lv rfl (some 46) rfl (v := ?_) ?_ ?_
  rotate_left
  · go_simp; (try simp only [IntKind.wrap_i64, Int.reduceAdd, Int.reduceSub, Int.reduceMod, Int.reducePow, Int.reduceNeg]); try with_reducible rfl
  try simp only [Act.put, List.setIfInBounds_toArray, List.set_cons_zero, List.set_cons_succ]
  refine wpList_nil ?_
  go_upto_region 13 with fail
  refine wp_region_lit ?_
  refine lv rfl (some 49) rfl (v := ?_) ?_ ?_
  rotate_left
  · go_simp; (try simp only [IntKind.wrap_i64, Int.reduceAdd, Int.reduceSub, Int.reduceMod, Int.reducePow, Int.reduceNeg]); try with_reducible rfl
  try simp only [Act.put, List.setIfInBounds_toArray, List.set_cons_zero, List.set_cons_succ]
  refine lv rfl (some 50) rfl (v := ?_) ?_ ?_
  rotate_left
  · go_simp; (try simp only [IntKind.wrap_i64, Int.reduceAdd, Int.reduceSub, Int.reduceMod, Int.reducePow, Int.reduceNeg]); try with_reducible rfl
  try simp only [Act.put, List.setIfInBounds_toArray, List.set_cons_zero, List.set_cons_succ]
  refine l_cell M9 1 rfl 5 (.tmp 50) _ rfl rfl rfl _ rfl _ rfl (by kernel_rfl) (by kernel_rfl) rfl rfl (a16 (zr X 12 15)) (by kernel_rfl) _ rfl (fun s10 M10 => ?_)
  clear M9
  try simp only [List.cons_append, List.nil_append, List.set_cons_zero, List.set_cons_succ] at M10
  try simp only [Act.put, List.setIfInBounds_toArray, List.set_cons_zero, List.set_cons_succ]
  refine wpList_nil ?_
  go_upto_region 12 with fail
  refine wp_region_lit ?_
  refine lv rfl (some 47) rfl (v := ?_) ?_ ?_
  rotate_left
  · go_simp; (try simp only [IntKind.wrap_i64, Int.reduceAdd, Int.reduceSub, Int.reduceMod, Int.reducePow, Int.reduceNeg]); try with_reducible rfl
  try simp only [Act.put, List.setIfInBounds_toArray, List.set_cons_zero, List.set_cons_succ]
  refine lv rfl (some 48) rfl (v := ?_) ?_ ?_
  rotate_left
  · go_simp; (try simp only [IntKind.wrap_i64, Int.reduceAdd, Int.reduceSub, Int.reduceMod, Int.reducePow, Int.reduceNeg]); try with_reducible rfl
  try simp only [Act.put, List.setIfInBounds_toArray, List.set_cons_zero, List.set_cons_succ]
  refine lv rfl (some 10) rfl (v := ?_) ?_ ?_
  rotate_left
  · go_simp; (try simp only [IntKind.wrap_i64, Int.reduceAdd, Int.reduceSub, Int.reduceMod, Int.reducePow, Int.reduceNeg]); try with_reducible rfl
  try simp only [Act.put, List.setIfInBounds_toArray, List.set_cons_zero, List.set_cons_succ]
  refine wpList_nil ?_
  go_wp2_with fail
  rw [rounds_succ]
  go_upto_region 11 with fail
  refine wp_region_lit ?_
  refine lv rfl (some 45) rfl (v := ?_) ?_ ?_
  rotate_left
  · go_simp; (try simp only [IntKind.wrap_i64, Int.reduceAdd, Int.reduceSub, Int.reduceMod, Int.reducePow, Int.reduceNeg]); try with_reducible rfl
  try simp only [Act.put, List.setIfInBounds_toArray, List.set_cons_zero, List.set_cons_succ]
  refine lv rfl (some 46) rfl (v := ?_) ?_ ?_
  rotate_left
  · go_simp; (try simp only [IntKind.wrap_i64, Int.reduceAdd, Int.reduceSub, Int.reduceMod, Int.reducePow, Int.reduceNeg]); try with_reducible rfl
  try simp only [Act.put, List.setIfInBounds_toArray, List.set_cons_zero, List.set_cons_succ]
  refine wpList_nil ?_
  go_upto_region 13 with fail
  refine wp_region_lit ?_
  refine lv rfl (some 49) rfl (v := ?_) ?_ ?_
  rotate_left
  · go_simp; (try simp only [IntKind.wrap_i64, Int.reduceAdd, Int.reduceSub, Int.reduceMod, Int.reducePow, Int.reduceNeg]); try with_reducible rfl
  try simp only [Act.put, List.setIfInBounds_toArray, List.set_cons_zero, List.set_cons_succ]
  refine lv rfl (some 50) rfl (v := ?_) ?_ ?_
  rotate_left
  · go_simp; (try simp only [IntKind.wrap_i64, Int.reduceAdd, Int.reduceSub, Int.reduceMod, Int.reducePow, Int.reduceNeg]); try with_reducible rfl
  try simp only [Act.put, List.setIfInBounds_toArray, List.set_cons_zero, List.set_cons_succ]
  refine l_cell M10 1 rfl 5 (.tmp 50) _ rfl rfl rfl _ rfl _ rfl (by kernel_rfl) (by kernel_rfl) rfl rfl (a16 (zr X 12 16)) (by kernel_rfl) _ rfl (fun s11 M11 => ?_)
  clear M10
  try simp only [List.cons_append, List.nil_append, List.set_cons_zero, List.set_cons_succ] at M11
  try simp only [Act.put, List.setIfInBounds_toArray, List.set_cons_zero, List.set_cons_succ]
  refine wpList_nil ?_
  go_upto_region 12 with fail
  refine wp_region_lit ?_
  refine lv rfl (some 47) rfl (v := ?_) ?_ ?_
  rotate_left
  · go_simp; (try simp only [IntKind.wrap_i64, Int.reduceAdd, Int.reduceSub, Int.reduceMod, Int.reducePow, Int.reduceNeg]); try with_reducible rfl
  try simp only [Act.put, List.setIfInBounds_toArray, List.set_cons_zero, List.set_cons_succ]
  refine lv rfl (some 48) rfl (v := ?_) ?_ ?_
  rotate_left
  · go_simp; (try simp only [IntKind.wrap_i64, Int.reduceAdd, Int.reduceSub, Int.reduceMod, Int.reducePow, Int.reduceNeg]); try with_reducible rfl
  try simp only [Act.put, List.setIfInBounds_toArray, List.set_cons_zero, List.set_cons_succ]
  refine lv rfl (some 10) rfl (v := ?_) ?_ ?_
  rotate_left
  · go_simp; (try simp only [IntKind.wrap_i64, Int.reduceAdd, Int.reduceSub, Int.reduceMod, Int.reducePow, Int.reduceNeg]); try with_reducible rfl
  try simp only [Act.put, List.setIfInBounds_toArray, List.set_cons_zero, List.set_cons_succ]
  refine wpList_nil ?_
  go_wp2_with fail
  rw [rounds_succ]
  go_upto_region 11 with fail
  refine wp_region_lit ?_
  refine lv rfl (some 45) rfl (v := ?_) ?_ ?_
  rotate_left
  · go_simp; (try simp only [IntKind.wrap_i64, Int.reduceAdd, Int.reduceSub, Int.reduceMod, Int.reducePow, Int.reduceNeg]); try with_reducible rfl
  try simp only [Act.put, List.setIfInBounds_toArray, List.set_cons_zero, List.set_cons_succ]
  refine lv rfl (some 46) rfl (v := ?_) ?_ ?_
  rotate_left
  · go_simp; (try simp only [IntKind.wrap_i64, Int.reduceAdd, Int.reduceSub, Int.reduceMod, Int.reducePow, Int.reduceNeg]); try with_reducible rfl
  try simp only [Act.put, List.setIfInBounds_toArray, List.set_cons_zero, List.set_cons_succ]
  refine wpList_nil ?_
  go_upto_region 14 with fail
  refine wp_region_lit ?_
  refine lv rfl (some 51) rfl (v := ?_) ?_ ?_
  rotate_left
  · go_simp; (try simp only [IntKind.wrap_i64, Int.reduceAdd, Int.reduceSub, Int.reduceMod, Int.reducePow, Int.reduceNeg]); try with_reducible rfl
  try simp only [Act.put, List.setIfInBounds_toArray, List.set_cons_zero, List.set_cons_succ]
  refine lv rfl (some 52) rfl (v := ?_) ?_ ?_
  rotate_left
  · go_simp; (try simp only [IntKind.wrap_i64, Int.reduceAdd, Int.reduceSub, Int.reduceMod, Int.reducePow, Int.reduceNeg]); try with_reducible rfl
  try simp only [Act.put, List.setIfInBounds_toArray, List.set_cons_zero, List.set_cons_succ]
  refine ly M11 (some 53) rfl (yi_row 0 26 (.tmp 2) rfl rfl rfl rfl Try.underlying26 rfl (by kernel_rfl)) ?_
  try simp only [Act.put, List.setIfInBounds_toArray, List.set_cons_zero, List.set_cons_succ]
  refine ly M11 (some 54) rfl (yi_row 1 23 (.tmp 3) rfl rfl rfl rfl Try.underlying23 rfl (by kernel_rfl)) ?_
  try simp only [Act.put, List.setIfInBounds_toArray, List.set_cons_zero, List.set_cons_succ]
  refine l_call rfl (some 55) rfl (c19 _) (by kernel_rfl) (fun s12 hb12 => ?_)
  have M12 := M11.call hb12
  clear hb12 M11
  try simp only [Act.put, List.setIfInBounds_toArray, List.set_cons_zero, List.set_cons_succ]
  refine lv rfl (some 56) rfl (v := ?_) ?_ ?_
  rotate_left
  · go_simp; (try simp only [IntKind.wrap_i64, Int.reduceAdd, Int.reduceSub, Int.reduceMod, Int.reducePow, Int.reduceNeg]); try with_reducible rfl
  try simp only [Act.put, List.setIfInBounds_toArray, List.set_cons_zero, List.set_cons_succ]
  refine lv rfl (some 57) rfl (v := ?_) ?_ ?_
  rotate_left
  · go_simp; (try simp only [IntKind.wrap_i64, Int.reduceAdd, Int.reduceSub, Int.reduceMod, Int.reducePow, Int.reduceNeg]); try with_reducible rfl
  try simp only [Act.put, List.setIfInBounds_toArray, List.set_cons_zero, List.set_cons_succ]
  refine ly M12 (some 58) rfl (yi_row 3 23 (.tmp 7) rfl rfl rfl rfl Try.underlying23 rfl (by kernel_rfl)) ?_
  try simp only [Act.put, List.setIfInBounds_toArray, List.set_cons_zero, List.set_cons_succ]
  refine ly M12 (some 59) rfl (yi_row 1 23 (.tmp 3) rfl rfl rfl rfl Try.underlying23 rfl (by kernel_rfl)) ?_
  try simp only [Act.put, List.setIfInBounds_toArray, List.set_cons_zero, List.set_cons_succ]
  refine lv rfl (some 60) rfl (v := ?_) ?_ ?_
  rotate_left
  · go_simp; (try simp only [IntKind.wrap_i64, Int.reduceAdd, Int.reduceSub, Int.reduceMod, Int.reducePow, Int.reduceNeg]); try with_reducible rfl
  try simp only [Act.put, List.setIfInBounds_toArray, List.set_cons_zero, List.set_cons_succ]
  refine lv rfl (some 61) rfl (v := ?_) ?_ ?_
  rotate_left
  · go_simp; (try simp only [IntKind.wrap_i64, Int.reduceAdd, Int.reduceSub, Int.reduceMod, Int.reducePow, Int.reduceNeg]); try with_reducible rfl
  try simp only [Act.put, List.setIfInBounds_toArray, List.set_cons_zero, List.set_cons_succ]
  refine lv rfl (some 4) rfl (v := ?_) ?_ ?_
  rotate_left
  · go_simp; (try simp only [IntKind.wrap_i64, Int.reduceAdd, Int.reduceSub, Int.reduceMod, Int.reducePow, Int.reduceNeg]); try with_reducible rfl
  try simp only [Act.put, List.setIfInBounds_toArray, List.set_cons_zero, List.set_cons_succ]
  refine wpList_nil ?_
  go_wp2_with fail
  go_ret
  exact ⟨rfl, M12.below⟩
set_option maxRecDepth 100000 in
set_option maxHeartbeats 4000000 in
theorem once_64 (P X : Nat → Int) (w : World) (bp : Bytes 16 P) (bx : Bytes 16 X) (h : InsideP P X 64) (h8 : X 8 = 0) : Calls Try.prog 7 #[net P 64, .agg (a16 X)] w fun e w' => e = .returned (.bool true) ∧ Below w.heap.size w w' := by
  have c12 := fun w => extract_t bp bx h h8 w
  have c10 := fun w => embed_t h.1 (ext X 64) w
  have c19 := fun w => inside_t bp (zr_bytes bx 13 16) (zr_inside h (lo := 13) (by decide) 16) w
  have he : ∀ w, (Op.equalIn 10000 23 (.agg (a16 (emb P (ext X 64) 64))) (.agg (a16 (zr X 13 16)))).run Try.prog w = .ok true w := fun w => eq16 (r := true) (by
    simp only [true_iff]
    refine once_eq h h8 ?_ ?_ (by decide)
    · intro k hk; match k, hk with | 0, _ => decide | 1, _ => decide | 2, _ => decide | 3, _ => decide | k + 4, h => exact absurd h (by omega)
    · intro j hj hj2
      have hj2 : 8 ≤ j := hj2
      rcases (by omega : j = 8 ∨ j = 9 ∨ j = 10 ∨ j = 11 ∨ j = 12) with rfl | rfl | rfl | rfl | rfl
      · exact .inl rfl
      · exact .inr ⟨0, by omega, rfl⟩
      · exact .inr ⟨1, by omega, rfl⟩
      · exact .inr ⟨2, by omega, rfl⟩
      · exact .inr ⟨3, by omega, rfl⟩) w
  clear bp bx h h8
  go_enter Try.func7, Try.ntmps7
  go_upto_region 1 with fail
  have M0 := Mem.two w 26 23 #[.int .u8 (P 0), .int .u8 (P 1), .int .u8 (P 2), .int .u8 (P 3), .int .u8 (P 4), .int .u8 (P 5), .int .u8 (P 6), .int .u8 (P 7), .int .u8 (P 8), .int .u8 (P 9), .int .u8 (P 10), .int .u8 (P 11), .int .u8 (P 12), .int .u8 (P 13), .int .u8 (P 14), .int .u8 (P 15), .int .i64 64] (a16 X)
  refine wp_region_lit ?_
  refine l_call rfl (some 11) rfl (awake_any _) (by kernel_rfl) (fun s1 hb1 => ?_)
  have M1 := M0.call hb1
  clear hb1 M0
  try simp only [Act.put, List.setIfInBounds_toArray, List.set_cons_zero, List.set_cons_succ]
  refine lv rfl (some 12) rfl (v := ?_) ?_ ?_
  rotate_left
  · go_simp; (try simp only [IntKind.wrap_i64, Int.reduceAdd, Int.reduceSub, Int.reduceMod, Int.reducePow, Int.reduceNeg]); try with_reducible rfl
  try simp only [Act.put, List.setIfInBounds_toArray, List.set_cons_zero, List.set_cons_succ]
  refine wpList_nil ?_
  go_upto_region 3 with fail
  refine wp_region_lit ?_
  refine ly M1 (some 14) rfl (yi_row 0 26 (.tmp 2) rfl rfl rfl rfl Try.underlying26 rfl (by kernel_rfl)) ?_
  try simp only [Act.put, List.setIfInBounds_toArray, List.set_cons_zero, List.set_cons_succ]
  refine ly M1 (some 15) rfl (yi_row 1 23 (.tmp 3) rfl rfl rfl rfl Try.underlying23 rfl (by kernel_rfl)) ?_
  try simp only [Act.put, List.setIfInBounds_toArray, List.set_cons_zero, List.set_cons_succ]
  refine l_call rfl (some 16) rfl (c12 _) (by kernel_rfl) (fun s2 hb2 => ?_)
  have M2 := M1.call hb2
  clear hb2 M1
  try simp only [Act.put, List.setIfInBounds_toArray, List.set_cons_zero, List.set_cons_succ]
  refine lv rfl (some 13) rfl (v := ?_) ?_ ?_
  rotate_left
  · go_simp; (try simp only [IntKind.wrap_i64, Int.reduceAdd, Int.reduceSub, Int.reduceMod, Int.reducePow, Int.reduceNeg]); try with_reducible rfl
  try simp only [Act.put, List.setIfInBounds_toArray, List.set_cons_zero, List.set_cons_succ]
  refine lv rfl (some 17) rfl (v := ?_) ?_ ?_
  rotate_left
  · go_simp; (try simp only [IntKind.wrap_i64, Int.reduceAdd, Int.reduceSub, Int.reduceMod, Int.reducePow, Int.reduceNeg]); try with_reducible rfl
  try simp only [Act.put, List.setIfInBounds_toArray, List.set_cons_zero, List.set_cons_succ]
  refine lv rfl (some 18) rfl (v := ?_) ?_ ?_
  rotate_left
  · go_simp; (try simp only [IntKind.wrap_i64, Int.reduceAdd, Int.reduceSub, Int.reduceMod, Int.reducePow, Int.reduceNeg]); try with_reducible rfl
  try simp only [Act.put, List.setIfInBounds_toArray, List.set_cons_zero, List.set_cons_succ]
  refine l_alloc rfl (some 5) rfl #[.int .u8 0, .int .u8 0, .int .u8 0, .int .u8 0] 31 (by kernel_rfl) ?_
  have M3 := M2.new rfl 31 #[.int .u8 0, .int .u8 0, .int .u8 0, .int .u8 0]
  clear M2
  try simp only [List.cons_append, List.nil_append, List.set_cons_zero, List.set_cons_succ] at M3
  try simp only [Act.put, List.setIfInBounds_toArray, List.set_cons_zero, List.set_cons_succ]
  refine l_store M3 2 rfl 31 (.tmp 5) _ rfl rfl rfl rfl _ rfl (by kernel_rfl) (by rfl) (by kernel_rfl) _ rfl (fun s4 M4 => ?_)
  clear M3
  try simp only [List.cons_append, List.nil_append, List.set_cons_zero, List.set_cons_succ] at M4
  try simp only [Act.put, List.setIfInBounds_toArray, List.set_cons_zero, List.set_cons_succ]
  refine lv rfl (some 6) rfl (v := ?_) ?_ ?_
  rotate_left
  · go_simp; (try simp only [IntKind.wrap_i64, Int.reduceAdd, Int.reduceSub, Int.reduceMod, Int.reducePow, Int.reduceNeg]); try with_reducible rfl
  try simp only [Act.put, List.setIfInBounds_toArray, List.set_cons_zero, List.set_cons_succ]
  refine wpList_nil ?_
  go_upto_region 4 with fail
  refine wp_region_lit ?_
  refine lv rfl (some 19) rfl (v := ?_) ?_ ?_
  rotate_left
  · go_simp; (try simp only [IntKind.wrap_i64, Int.reduceAdd, Int.reduceSub, Int.reduceMod, Int.reducePow, Int.reduceNeg]); try with_reducible rfl
  try simp only [Act.put, List.setIfInBounds_toArray, List.set_cons_zero, List.set_cons_succ]
  refine lv rfl (some 20) rfl (v := ?_) ?_ ?_
  rotate_left
  · go_simp; (try simp only [IntKind.wrap_i64, Int.reduceAdd, Int.reduceSub, Int.reduceMod, Int.reducePow, Int.reduceNeg]); try with_reducible rfl
  try simp only [Act.put, List.setIfInBounds_toArray, List.set_cons_zero, List.set_cons_succ]
  refine wpList_nil ?_
  go_upto_region 6 with fail
  refine wp_region_lit ?_
  refine ly M4 (some 25) rfl (yi_row 0 26 (.tmp 2) rfl rfl rfl rfl Try.underlying26 rfl (by kernel_rfl)) ?_
  try simp only [Act.put, List.setIfInBounds_toArray, List.set_cons_zero, List.set_cons_succ]
  refine ly M4 (some 26) rfl (yi_row 2 31 (.tmp 5) rfl rfl rfl rfl Try.underlying31 rfl (by kernel_rfl)) ?_
  try simp only [Act.put, List.setIfInBounds_toArray, List.set_cons_zero, List.set_cons_succ]
  refine l_call rfl (some 27) rfl (c10 _) (by kernel_rfl) (fun s5 hb5 => ?_)
  have M5 := M4.call hb5
  clear hb5 M4
  try simp only [Act.put, List.setIfInBounds_toArray, List.set_cons_zero, List.set_cons_succ]
  refine lv rfl (some 24) rfl (v := ?_) ?_ ?_
  rotate_left
  · go_simp; (try simp only [IntKind.wrap_i64, Int.reduceAdd, Int.reduceSub, Int.reduceMod, Int.reducePow, Int.reduceNeg]); try with_reducible rfl
  try simp only [Act.put, List.setIfInBounds_toArray, List.set_cons_zero, List.set_cons_succ]
  refine lv rfl (some 28) rfl (v := ?_) ?_ ?_
  rotate_left
  · go_simp; (try simp only [IntKind.wrap_i64, Int.reduceAdd, Int.reduceSub, Int.reduceMod, Int.reducePow, Int.reduceNeg]); try with_reducible rfl
  try simp only [Act.put, List.setIfInBounds_toArray, List.set_cons_zero, List.set_cons_succ]
  refine lv rfl (some 29) rfl (v := ?_) ?_ ?_
  rotate_left
  · go_simp; (try simp only [IntKind.wrap_i64, Int.reduceAdd, Int.reduceSub, Int.reduceMod, Int.reducePow, Int.reduceNeg]); try with_reducible rfl
  try simp only [Act.put, List.setIfInBounds_toArray, List.set_cons_zero, List.set_cons_succ]
  refine l_alloc rfl (some 7) rfl #[.int .u8 0, .int .u8 0, .int .u8 0, .int .u8 0, .int .u8 0, .int .u8 0, .int .u8 0, .int .u8 0, .int .u8 0, .int .u8 0, .int .u8 0, .int .u8 0, .int .u8 0, .int .u8 0, .int .u8 0, .int .u8 0] 23 (by kernel_rfl) ?_
  have M6 := M5.new rfl 23 #[.int .u8 0, .int .u8 0, .int .u8 0, .int .u8 0, .int .u8 0, .int .u8 0, .int .u8 0, .int .u8 0, .int .u8 0, .int .u8 0, .int .u8 0, .int .u8 0, .int .u8 0, .int .u8 0, .int .u8 0, .int .u8 0]
  clear M5
  try simp only [List.cons_append, List.nil_append, List.set_cons_zero, List.set_cons_succ] at M6
  try simp only [Act.put, List.setIfInBounds_toArray, List.set_cons_zero, List.set_cons_succ]
  refine l_store M6 3 rfl 23 (.tmp 7) _ rfl rfl rfl rfl _ rfl (by kernel_rfl) (by rfl) (by kernel_rfl) _ rfl (fun s7 M7 => ?_)
  clear M6
  try simp only [List.cons_append, List.nil_append, List.set_cons_zero, List.set_cons_succ] at M7
  try simp only [Act.put, List.setIfInBounds_toArray, List.set_cons_zero, List.set_cons_succ]
  refine lv rfl (some 8) rfl (v := ?_) ?_ ?_
  rotate_left
  · go_simp; (try simp only [IntKind.wrap_i64, Int.reduceAdd, Int.reduceSub, Int.reduceMod, Int.reducePow, Int.reduceNeg]); try with_reducible rfl
  try simp only [Act.put, List.setIfInBounds_toArray, List.set_cons_zero, List.set_cons_succ]
  refine wpList_nil ?_
  go_upto_region 7 with fail
  refine wp_region_lit ?_
  refine lv rfl (some 30) rfl (v := ?_) ?_ ?_
  rotate_left
  · go_simp; (try simp only [IntKind.wrap_i64, Int.reduceAdd, Int.reduceSub, Int.reduceMod, Int.reducePow, Int.reduceNeg]); try with_reducible rfl
  try simp only [Act.put, List.setIfInBounds_toArray, List.set_cons_zero, List.set_cons_succ]
  refine ly M7 (some 31) rfl (yi_cell 0 3 (.tmp 30) rfl rfl rfl _ rfl _ Try.underlying3 rfl) ?_
  try simp only [Act.put, List.setIfInBounds_toArray, List.set_cons_zero, List.set_cons_succ]
  refine lv rfl (some 32) rfl (v := ?_) ?_ ?_
  rotate_left
  · go_simp; (try simp only [IntKind.wrap_i64, Int.reduceAdd, Int.reduceSub, Int.reduceMod, Int.reducePow, Int.reduceNeg]); try with_reducible rfl
  try simp only [Act.put, List.setIfInBounds_toArray, List.set_cons_zero, List.set_cons_succ]
  refine lv rfl (some 33) rfl (v := ?_) ?_ ?_
  rotate_left
  · go_simp; (try simp only [IntKind.wrap_i64, Int.reduceAdd, Int.reduceSub, Int.reduceMod, Int.reducePow, Int.reduceNeg]); try with_reducible rfl
  try simp only [Act.put, List.setIfInBounds_toArray, List.set_cons_zero, List.set_cons_succ]
  refine lv rfl (some 9) rfl (v := ?_) ?_ ?_
  rotate_left
  · go_simp; (try simp only [IntKind.wrap_i64, Int.reduceAdd, Int.reduceSub, Int.reduceMod, Int.reducePow, Int.reduceNeg]); try with_reducible rfl
  try simp only [Act.put, List.setIfInBounds_toArray, List.set_cons_zero, List.set_cons_succ]
  refine wpList_nil ?_
  go_upto_region 8 with fail
  refine wp_region_lit ?_
  refine lv rfl (some 34) rfl (v := ?_) ?_ ?_
  rotate_left
  · go_simp; (try simp only [IntKind.wrap_i64, Int.reduceAdd, Int.reduceSub, Int.reduceMod, Int.reducePow, Int.reduceNeg]); try with_reducible rfl
  try simp only [Act.put, List.setIfInBounds_toArray, List.set_cons_zero, List.set_cons_succ]
  refine ly M7 (some 35) rfl (yi_cell 0 3 (.tmp 34) rfl rfl rfl _ rfl _ Try.underlying3 rfl) ?_
  try simp only [Act.put, List.setIfInBounds_toArray, List.set_cons_zero, List.set_cons_succ]
  refine lv rfl (some 36) rfl (v := ?_) ?_ ?_
  rotate_left
  · go_simp; (try simp only [IntKind.wrap_i64, Int.reduceAdd, Int.reduceSub, Int.reduceMod, Int.reducePow, Int.reduceNeg]); try with_reducible rfl
  try simp only [Act.put, List.setIfInBounds_toArray, List.set_cons_zero, List.set_cons_succ]
  refine lv rfl (some 37) rfl (v := ?_) ?_ ?_
  rotate_left
  · go_simp; (try simp only [IntKind.wrap_i64, Int.reduceAdd, Int.reduceSub, Int.reduceMod, Int.reducePow, Int.reduceNeg]); try with_reducible rfl
  try simp only [Act.put, List.setIfInBounds_toArray, List.set_cons_zero, List.set_cons_succ]
  refine lv rfl (some 38) rfl (v := ?_) ?_ ?_
  rotate_left
  · go_simp; (try simp only [IntKind.wrap_i64, Int.reduceAdd, Int.reduceSub, Int.reduceMod, Int.reducePow, Int.reduceNeg]); try with_reducible rfl
  try simp only [Act.put, List.setIfInBounds_toArray, List.set_cons_zero, List.set_cons_succ]
  refine ly M7 (some 39) rfl (yi_cell 0 3 (.tmp 38) rfl rfl rfl _ rfl _ Try.underlying3 rfl) ?_
  try simp only [Act.put, List.setIfInBounds_toArray, List.set_cons_zero, List.set_cons_succ]
  refine lv rfl (some 40) rfl (v := ?_) ?_ ?_
  rotate_left
  · go_simp; (try simp only [IntKind.wrap_i64, Int.reduceAdd, Int.reduceSub, Int.reduceMod, Int.reducePow, Int.reduceNeg]); try with_reducible rfl
  try simp only [Act.put, List.setIfInBounds_toArray, List.set_cons_zero, List.set_cons_succ]
  refine lv rfl (some 41) rfl (v := ?_) ?_ ?_
  rotate_left
  · go_simp; (try simp only [IntKind.wrap_i64, Int.reduceAdd, Int.reduceSub, Int.reduceMod, Int.reducePow, Int.reduceNeg]); try with_reducible rfl
  try simp only [Act.put, List.setIfInBounds_toArray, List.set_cons_zero, List.set_cons_succ]
  refine wpList_nil ?_
  go_upto_region 9 with fail
  refine wp_region_lit ?_
  refine lv rfl (some 42) rfl (v := ?_) ?_ ?_
  rotate_left
  · go_simp; (try simp only [IntKind.wrap_i64, Int.reduceAdd, Int.reduceSub, Int.reduceMod, Int.reducePow, Int.reduceNeg]); try with_reducible rfl
  try simp only [Act.put, List.setIfInBounds_toArray, List.set_cons_zero, List.set_cons_succ]
  refine lv rfl (some 43) rfl (v := ?_) ?_ ?_
  rotate_left
  · go_simp; (try simp only [IntKind.wrap_i64, Int.reduceAdd, Int.reduceSub, Int.reduceMod, Int.reducePow, Int.reduceNeg]); try with_reducible rfl
  try simp only [Act.put, List.setIfInBounds_toArray, List.set_cons_zero, List.set_cons_succ]
  refine lv rfl (some 9) rfl (v := ?_) ?_ ?_
  rotate_left
  · go_simp; (try simp only [IntKind.wrap_i64, Int.reduceAdd, Int.reduceSub, Int.reduceMod, Int.reducePow, Int.reduceNeg]); try with_reducible rfl
  try simp only [Act.put, List.setIfInBounds_toArray, List.set_cons_zero, List.set_cons_succ]
  refine wpList_nil ?_
  go_upto_region 10 with fail
  refine wp_region_lit ?_
  refine lv rfl (some 44) rfl (v := ?_) ?_ ?_
  rotate_left
  · go_simp; (try simp only [IntKind.wrap_i64, Int.reduceAdd, Int.reduceSub, Int.reduceMod, Int.reducePow, Int.reduceNeg]); try with_reducible rfl
  try simp only [Act.put, List.setIfInBounds_toArray, List.set_cons_zero, List.set_cons_succ]
  refine lv rfl (some 10) rfl (v := ?_) ?_ ?_
  rotate_left
  · go_simp; (try simp only [IntKind.wrap_i64, Int.reduceAdd, Int.reduceSub, Int.reduceMod, Int.reducePow, Int.reduceNeg]); try with_reducible rfl
  try simp only [Act.put, List.setIfInBounds_toArray, List.set_cons_zero, List.set_cons_succ]
  refine wpList_nil ?_
  go_wp2_with fail
  refine wp_loop_rounds 4 ?_
  rw [rounds_succ]
  go_upto_region 11 with fail
  refine wp_region_lit ?_
  refine lv rfl (some 45) rfl (v := ?_) ?_ ?_
  rotate_left
  · go_simp; (try simp only [IntKind.wrap_i64, Int.reduceAdd, Int.reduceSub, Int.reduceMod, Int.reducePow, Int.reduceNeg]); try with_reducible rfl
  try simp only [Act.put, List.setIfInBounds_toArray, List.set_cons_zero, List.set_cons_succ]
  refine lv rfl (some 46) rfl (v := ?_) ?_ ?_
  rotate_left
  · go_simp; (try simp only [IntKind.wrap_i64, Int.reduceAdd, Int.reduceSub, Int.reduceMod, Int.reducePow, Int.reduceNeg]); try with_reducible rfl
  try simp only [Act.put, List.setIfInBounds_toArray, List.set_cons_zero, List.set_cons_succ]
  refine wpList_nil ?_
  go_upto_region 13 with fail
  refine wp_region_lit ?_
  refine lv rfl (some 49) rfl (v := ?_) ?_ ?_
  rotate_left
  · go_simp; (try simp only [IntKind.wrap_i64, Int.reduceAdd, Int.reduceSub, Int.reduceMod, Int.reducePow, Int.reduceNeg]); try with_reducible rfl
  try simp only [Act.put, List.setIfInBounds_toArray, List.set_cons_zero, List.set_cons_succ]
  refine lv rfl (some 50) rfl (v := ?_) ?_ ?_
  rotate_left
  · go_simp; (try simp only [IntKind.wrap_i64, Int.reduceAdd, Int.reduceSub, Int.reduceMod, Int.reducePow, Int.reduceNeg]); try with_reducible rfl
  try simp only [Act.put, List.setIfInBounds_toArray, List.set_cons_zero, List.set_cons_succ]
  refine l_cell M7 1 rfl 5 (.tmp 50) _ rfl rfl rfl _ rfl _ rfl (by kernel_rfl) (by kernel_rfl) rfl rfl (a16 (zr X 13 14)) (by kernel_rfl) _ rfl (fun s8 M8 => ?_)
  clear M7
  try simp only [List.cons_append, List.nil_append, List.set_cons_zero, List.set_cons_succ] at M8
  try simp only [Act.put, List.setIfInBounds_toArray, List.set_cons_zero, List.set_cons_succ]
  refine wpList_nil ?_
  go_upto_region 12 with fail
  refine wp_region_lit ?_
  refine lv rfl (some 47) rfl (v := ?_) ?_ ?_
  rotate_left
  · go_simp; (try simp only [IntKind.wrap_i64, Int.reduceAdd, Int.reduceSub, Int.reduceMod, Int.reducePow, Int.reduceNeg]); try with_reducible rfl
  try simp only [Act.put, List.setIfInBounds_toArray, List.set_cons_zero, List.set_cons_succ]
  refine lv rfl (some 48) rfl (v := ?_) ?_ ?_
  rotate_left
  · go_simp; (try simp only [IntKind.wrap_i64, Int.reduceAdd, Int.reduceSub, Int.reduceMod, Int.reducePow, Int.reduceNeg]); try with_reducible rfl
  try simp only [Act.put, List.setIfInBounds_toArray, List.set_cons_zero, List.set_cons_succ]
  refine lv rfl (some 10) rfl (v := ?_) ?_ ?_
  rotate_left
  · go_simp; (try simp only [IntKind.wrap_i64, Int.reduceAdd, Int.reduceSub, Int.reduceMod, Int.reducePow, Int.reduceNeg]); try with_reducible rfl
  try simp only [Act.put, List.setIfInBounds_toArray, List.set_cons_zero, List.set_cons_succ]
  refine wpList_nil ?_
  go_wp2_with fail
  rw [rounds_succ]
  go_upto_region 11 with fail
  refine wp_region_lit ?_
  refine lv rfl (some 45) rfl (v := ?_) ?_ ?_
  rotate_left
  · go_simp; (try simp only [IntKind.wrap_i64, Int.reduceAdd, Int.reduceSub, Int.reduceMod, Int.reducePow, Int.reduceNeg]); try with_reducible rfl
  try simp only [Act.put, List.setIfInBounds_toArray, List.set_cons_zero, List.set_cons_succ]
  refine lv rfl (some 46) rfl (v := ?_) ?_ ?_
  rotate_left
  · go_simp; (try simp only [IntKind.wrap_i64, Int.reduceAdd, Int.reduceSub, Int.reduceMod, Int.reducePow, Int.reduceNeg]); try with_reducible rfl
  try simp only [Act.put, List.setIfInBounds_toArray, List.set_cons_zero, List.set_cons_succ]
  refine wpList_nil ?_
  go_upto_region 13 with fail
  refine wp_region_lit ?_
  refine lv rfl (some 49) rfl (v := ?_) ?_ ?_
  rotate_left
  · go_simp; (try simp only [IntKind.wrap_i64, Int.reduceAdd, Int.reduceSub, Int.reduceMod, Int.reducePow, Int.reduceNeg]); try with_reducible rfl
  try simp only [Act.put, List.setIfInBounds_toArray, List.set_cons_zero, List.set_cons_succ]
  refine lv rfl (some 50) rfl (v := ?_) ?_ ?_
  rotate_left
  · go_simp; (try simp only [IntKind.wrap_i64, Int.reduceAdd, Int.reduceSub, Int.reduceMod, Int.reducePow, Int.reduceNeg]); try with_reducible rfl
  try simp only [Act.put, List.setIfInBounds_toArray, List.set_cons_zero, List.set_cons_succ]
  refine l_cell M8 1 rfl 5 (.tmp 50) _ rfl rfl rfl _ rfl _ rfl (by kernel_rfl) (by kernel_rfl) rfl rfl (a16 (zr X 13 15)) (by kernel_rfl) _ rfl (fun s9 M9 => ?_)
  clear M8
  try simp only [List.cons_append, List.nil_append, List.set_cons_zero, List.set_cons_succ] at M9
  try simp only [Act.put, List.setIfInBounds_toArray, List.set_cons_zero, List.set_cons_succ]
  refine wpList_nil ?_
  go_upto_region 12 with fail
  refine wp_region_lit ?_
  refine lv rfl (some 47) rfl (v := ?_) ?_ ?_
  rotate_left
  · go_simp; (try simp only [IntKind.wrap_i64, Int.reduceAdd, Int.reduceSub, Int.reduceMod, Int.reducePow, Int.reduceNeg]); try with_reducible rfl
  try simp only [Act.put, List.setIfInBounds_toArray, List.set_cons_zero, List.set_cons_succ]
  refine lv rfl (some 48) rfl (v := ?_) ?_ ?_
  rotate_left
  · go_simp; (try simp only [IntKind.wrap_i64, Int.reduceAdd, Int.reduceSub, Int.reduceMod, Int.reducePow, Int.reduceNeg]); try with_reducible rfl
  try simp only [Act.put, List.setIfInBounds_toArray, List.set_cons_zero, List.set_cons_succ]
  refine lv rfl (some 10) rfl (v := ?_) ?_ ?_
  rotate_left
  · go_simp; (try simp only [IntKind.wrap_i64, Int.reduceAdd, Int.reduceSub, Int.reduceMod, Int.reducePow, Int.reduceNeg]); try with_reducible rfl
  try simp only [Act.put, List.setIfInBounds_toArray, List.set_cons_zero, List.set_cons_succ]
  refine wpList_nil ?_
  go_wp2_with fail
  rw [rounds_succ]
  go_upto_region 11 with fail
  refine wp_region_lit ?_
  refine lv rfl (some 45) rfl (v := ?_) ?_ ?_
  rotate_left
  · go_simp; (try simp only [IntKind.wrap_i64, Int.reduceAdd, Int.reduceSub, Int.reduceMod, Int.reducePow, Int.reduceNeg]); try with_reducible rfl
  try simp only [Act.put, List.setIfInBounds_toArray, List.set_cons_zero, List.set_cons_succ]
  refine lv rfl (some 46) rfl (v := ?_) ?_ ?_
  rotate_left
  · go_simp; (try simp only [IntKind.wrap_i64, Int.reduceAdd, Int.reduceSub, Int.reduceMod, Int.reducePow, Int.reduceNeg]); try with_reducible rfl
  try simp only [Act.put, List.setIfInBounds_toArray, List.set_cons_zero, List.set_cons_succ]
  refine wpList_nil ?_
  go_upto_region 13 with fail
  refine wp_region_lit ?_
  refine lv rfl (some 49) rfl (v := ?_) ?_ ?_
  rotate_left
  · go_simp; (try simp only [IntKind.wrap_i64, Int.reduceAdd, Int.reduceSub, Int.reduceMod, Int.reducePow, Int.reduceNeg]); try with_reducible rfl
  try simp only [Act.put, List.setIfInBounds_toArray, List.set_cons_zero, List.set_cons_succ]
  refine lv rfl (some 50) rfl (v := ?_) ?_ ?_
  rotate_left
  · go_simp; (try simp only [IntKind.wrap_i64, Int.reduceAdd, Int.reduceSub, Int.reduceMod, Int.reducePow, Int.reduceNeg]); try with_reducible rfl
  try simp only [Act.put, List.setIfInBounds_toArray, List.set_cons_zero, List.set_cons_succ]
  refine l_cell M9 1 rfl 5 (.tmp 50) _ rfl rfl rfl _ rfl _ rfl (by kernel_rfl) (by kernel_rfl) rfl rfl (a16 (zr X 13 16)) (by kernel_rfl) _ rfl (fun s10 M10 => ?_)
  clear M9
  try simp only [List.cons_append, List.nil_append, List.set_cons_zero, List.set_cons_succ] at M10
  try simp only [Act.put, List.setIfInBounds_toArray, List.set_cons_zero, List.set_cons_succ]
  refine wpList_nil ?_
  go_upto_region 12 with fail
  refine wp_region_lit ?_
  refine lv rfl (some 47) rfl (v := ?_) ?_ ?_
  rotate_left
  · go_simp; (try simp only [IntKind.wrap_i64, Int.reduceAdd, Int.reduceSub, Int.reduceMod, Int.reducePow, Int.reduceNeg]); try with_reducible rfl
  try simp only [Act.put, List.setIfInBounds_toArray, List.set_cons_zero, List.set_cons_succ]
  refine lv rfl (some 48) rfl (v := ?_) ?_ ?_
  rotate_left
  · go_simp; (try simp only [IntKind.wrap_i64, Int.reduceAdd, Int.reduceSub, Int.reduceMod, Int.reducePow, Int.reduceNeg]); try with_reducible rfl
  try simp only [Act.put, List.setIfInBounds_toArray, List.set_cons_zero, List.set_cons_succ]
  refine lv rfl (some 10) rfl (v := ?_) ?_ ?_
  rotate_left
  · go_simp; (try simp only [IntKind.wrap_i64, Int.reduceAdd, Int.reduceSub, Int.reduceMod, Int.reducePow, Int.reduceNeg]); try with_reducible rfl
  try simp only [Act.put, List.setIfInBounds_toArray, List.set_cons_zero, List.set_cons_succ]
  refine wpList_nil ?_
  go_wp2_with fail
  rw [rounds_succ]
  go_upto_region 11 with fail
  refine wp_region_lit ?_
  refine lv rfl (some 45) rfl (v := ?_) ?_ ?_
  rotate_left
  · go_simp; (try simp only [IntKind.wrap_i64, Int.reduceAdd, Int.reduceSub, Int.reduceMod, Int.reducePow, Int.reduceNeg]); try with_reducible rfl
  try simp only [Act.put, List.setIfInBounds_toArray, List.set_cons_zero, List.set_cons_succ]
  refine lv rfl (some 46) rfl (v := ?_) ?_ ?_
  rotate_left
  · go_simp; (try simp only [IntKind.wrap_i64, Int.reduceAdd, Int.reduceSub, Int.reduceMod, Int.reducePow, Int.reduceNeg]); try with_reducible rfl
  try simp only [Act.put, List.setIfInBounds_toArray, List.set_cons_zero, List.set_cons_succ]
  refine wpList_nil ?_
  go_upto_region 14 with fail
  refine wp_region_lit ?_
  refine lv rfl (some 51) rfl (v := ?_) ?_ ?_
  rotate_left
  · go_simp; (try simp only [IntKind.wrap_i64, Int.reduceAdd, Int.reduceSub, Int.reduceMod, Int.reducePow, Int.reduceNeg]); try with_reducible rfl
  try simp only [Act.put, List.setIfInBounds_toArray, List.set_cons_zero, List.set_cons_succ]
  refine lv rfl (some 52) rfl (v := ?_) ?_ ?_
  rotate_left
  · go_simp; (try simp only [IntKind.wrap_i64, Int.reduceAdd, Int.reduceSub, Int.reduceMod, Int.reducePow, Int.reduceNeg]); try with_reducible rfl
  try simp only [Act.put, List.setIfInBounds_toArray, List.set_cons_zero, List.set_cons_succ]
  refine ly M10 (some 53) rfl (yi_row 0 26 (.tmp 2) rfl rfl rfl rfl Try.underlying26 rfl (by kernel_rfl)) ?_
  try simp only [Act.put, List.setIfInBounds_toArray, List.set_cons_zero, List.set_cons_succ]
  refine ly M10 (some 54) rfl (yi_row 1 23 (.tmp 3) rfl rfl rfl rfl Try.underlying23 rfl (by kernel_rfl)) ?_
  try simp only [Act.put, List.setIfInBounds_toArray, List.set_cons_zero, List.set_cons_succ]
  refine l_call rfl (some 55) rfl (c19 _) (by kernel_rfl) (fun s11 hb11 => ?_)
  have M11 := M10.call hb11
  clear hb11 M10
  try simp only [Act.put, List.setIfInBounds_toArray, List.set_cons_zero, List.set_cons_succ]
  refine lv rfl (some 56) rfl (v := ?_) ?_ ?_
  rotate_left
  · go_simp; (try simp only [IntKind.wrap_i64, Int.reduceAdd, Int.reduceSub, Int.reduceMod, Int.reducePow, Int.reduceNeg]); try with_reducible rfl
  try simp only [Act.put, List.setIfInBounds_toArray, List.set_cons_zero, List.set_cons_succ]
  refine lv rfl (some 57) rfl (v := ?_) ?_ ?_
  rotate_left
  · go_simp; (try simp only [IntKind.wrap_i64, Int.reduceAdd, Int.reduceSub, Int.reduceMod, Int.reducePow, Int.reduceNeg]); try with_reducible rfl
  try simp only [Act.put, List.setIfInBounds_toArray, List.set_cons_zero, List.set_cons_succ]
  refine ly M11 (some 58) rfl (yi_row 3 23 (.tmp 7) rfl rfl rfl rfl Try.underlying23 rfl (by kernel_rfl)) ?_
  try simp only [Act.put, List.setIfInBounds_toArray, List.set_cons_zero, List.set_cons_succ]
  refine ly M11 (some 59) rfl (yi_row 1 23 (.tmp 3) rfl rfl rfl rfl Try.underlying23 rfl (by kernel_rfl)) ?_
  try simp only [Act.put, List.setIfInBounds_toArray, List.set_cons_zero, List.set_cons_succ]
  refine lv rfl (some 60) rfl (v := ?_) ?_ ?_
  rotate_left
  · go_simp; (try simp only [IntKind.wrap_i64, Int.reduceAdd, Int.reduceSub, Int.reduceMod, Int.reducePow, Int.reduceNeg]); try with_reducible rfl
  try simp only [Act.put, List.setIfInBounds_toArray, List.set_cons_zero, List.set_cons_succ]
  refine lv rfl (some 61) rfl (v := ?_) ?_ ?_
  rotate_left
  · go_simp; (try simp only [IntKind.wrap_i64, Int.reduceAdd, Int.reduceSub, Int.reduceMod, Int.reducePow, Int.reduceNeg]); try with_reducible rfl
  try simp only [Act.put, List.setIfInBounds_toArray, List.set_cons_zero, List.set_cons_succ]
  refine lv rfl (some 4) rfl (v := ?_) ?_ ?_
  rotate_left
  · go_simp; (try simp only [IntKind.wrap_i64, Int.reduceAdd, Int.reduceSub, Int.reduceMod, Int.reducePow, Int.reduceNeg]); try with_reducible rfl
  try simp only [Act.put, List.setIfInBounds_toArray, List.set_cons_zero, List.set_cons_succ]
  refine wpList_nil ?_
  go_wp2_with fail
  go_ret
  exact ⟨rfl, M11.below⟩
set_option maxRecDepth 100000 in
set_option maxHeartbeats 4000000 in
theorem once_96 (P X : Nat → Int) (w : World) (bp : Bytes 16 P) (bx : Bytes 16 X) (h : InsideP P X 96) (h8 : X 8 = 0) : Calls Try.prog 7 #[net P 96, .agg (a16 X)] w fun e w' => e = .returned (.bool true) ∧ Below w.heap.size w w' := by
  have c12 := fun w => extract_t bp bx h h8 w
  have c10 := fun w => embed_t h.1 (ext X 96) w
  have c19 := fun w => inside_t bp bx h w
  have he : ∀ w, (Op.equalIn 10000 23 (.agg (a16 (emb P (ext X 96) 96))) (.agg (a16 X))).run Try.prog w = .ok true w := fun w => eq16 (r := true) (by
    simp only [true_iff]
    refine once_16 (once_eq h h8 (lo := 16) ?_ ?_ (by decide))
    · intro k hk; match k, hk with | 0, _ => decide | 1, _ => decide | 2, _ => decide | 3, _ => decide | k + 4, h => exact absurd h (by omega)
    · intro j hj hj2
      have hj2 : 12 ≤ j := hj2
      rcases (by omega : j = 12 ∨ j = 13 ∨ j = 14 ∨ j = 15) with rfl | rfl | rfl | rfl
      · exact .inr ⟨0, by omega, rfl⟩
      · exact .inr ⟨1, by omega, rfl⟩
      · exact .inr ⟨2, by omega, rfl⟩
      · exact .inr ⟨3, by omega, rfl⟩) w
  clear bp bx h h8
  go_enter Try.func7, Try.ntmps7
  go_upto_region 1 with fail
  have M0 := Mem.two w 26 23 #[.int .u8 (P 0), .int .u8 (P 1), .int .u8 (P 2), .int .u8 (P 3), .int .u8 (P 4), .int .u8 (P 5), .int .u8 (P 6), .int .u8 (P 7), .int .u8 (P 8), .int .u8 (P 9), .int .u8 (P 10), .int .u8 (P 11), .int .u8 (P 12), .int .u8 (P 13), .int .u8 (P 14), .int .u8 (P 15), .int .i64 96] (a16 X)
  refine wp_region_lit ?_
  refine l_call rfl (some 11) rfl (awake_any _) (by kernel_rfl) (fun s1 hb1 => ?_)
  have M1 := M0.call hb1
  clear hb1 M0
  try simp only [Act.put, List.setIfInBounds_toArray, List.set_cons_zero, List.set_cons_succ]
  refine lv rfl (some 12) rfl (v := ?_) ?_ ?_
  rotate_left
  · go_simp; (try simp only [IntKind.wrap_i64, Int.reduceAdd, Int.reduceSub, Int.reduceMod, Int.reducePow, Int.reduceNeg]); try with_reducible rfl
  try simp only [Act.put, List.setIfInBounds_toArray, List.set_cons_zero, List.set_cons_succ]
  refine wpList_nil ?_
  go_upto_region 3 with fail
  refine wp_region_lit ?_
  refine ly M1 (some 14) rfl (yi_row 0 26 (.tmp 2) rfl rfl rfl rfl Try.underlying26 rfl (by kernel_rfl)) ?_
  try simp only [Act.put, List.setIfInBounds_toArray, List.set_cons_zero, List.set_cons_succ]
  refine ly M1 (some 15) rfl (yi_row 1 23 (.tmp 3) rfl rfl rfl rfl Try.underlying23 rfl (by kernel_rfl)) ?_
  try simp only [Act.put, List.setIfInBounds_toArray, List.set_cons_zero, List.set_cons_succ]
  refine l_call rfl (some 16) rfl (c12 _) (by kernel_rfl) (fun s2 hb2 => ?_)
  have M2 := M1.call hb2
  clear hb2 M1
  try simp only [Act.put, List.setIfInBounds_toArray, List.set_cons_zero, List.set_cons_succ]
  refine lv rfl (some 13) rfl (v := ?_) ?_ ?_
  rotate_left
  · go_simp; (try simp only [IntKind.wrap_i64, Int.reduceAdd, Int.reduceSub, Int.reduceMod, Int.reducePow, Int.reduceNeg]); try with_reducible rfl
  try simp only [Act.put, List.setIfInBounds_toArray, List.set_cons_zero, List.set_cons_succ]
  refine lv rfl (some 17) rfl (v := ?_) ?_ ?_
  rotate_left
  · go_simp; (try simp only [IntKind.wrap_i64, Int.reduceAdd, Int.reduceSub, Int.reduceMod, Int.reducePow, Int.reduceNeg]); try with_reducible rfl
  try simp only [Act.put, List.setIfInBounds_toArray, List.set_cons_zero, List.set_cons_succ]
  refine lv rfl (some 18) rfl (v := ?_) ?_ ?_
  rotate_left
  · go_simp; (try simp only [IntKind.wrap_i64, Int.reduceAdd, Int.reduceSub, Int.reduceMod, Int.reducePow, Int.reduceNeg]); try with_reducible rfl
  try simp only [Act.put, List.setIfInBounds_toArray, List.set_cons_zero, List.set_cons_succ]
  refine l_alloc rfl (some 5) rfl #[.int .u8 0, .int .u8 0, .int .u8 0, .int .u8 0] 31 (by kernel_rfl) ?_
  have M3 := M2.new rfl 31 #[.int .u8 0, .int .u8 0, .int .u8 0, .int .u8 0]
  clear M2
  try simp only [List.cons_append, List.nil_append, List.set_cons_zero, List.set_cons_succ] at M3
  try simp only [Act.put, List.setIfInBounds_toArray, List.set_cons_zero, List.set_cons_succ]
  refine l_store M3 2 rfl 31 (.tmp 5) _ rfl rfl rfl rfl _ rfl (by kernel_rfl) (by rfl) (by kernel_rfl) _ rfl (fun s4 M4 => ?_)
  clear M3
  try simp only [List.cons_append, List.nil_append, List.set_cons_zero, List.set_cons_succ] at M4
  try simp only [Act.put, List.setIfInBounds_toArray, List.set_cons_zero, List.set_cons_succ]
  refine lv rfl (some 6) rfl (v := ?_) ?_ ?_
  rotate_left
  · go_simp; (try simp only [IntKind.wrap_i64, Int.reduceAdd, Int.reduceSub, Int.reduceMod, Int.reducePow, Int.reduceNeg]); try with_reducible rfl
  try simp only [Act.put, List.setIfInBounds_toArray, List.set_cons_zero, List.set_cons_succ]
  refine wpList_nil ?_
  go_upto_region 4 with fail
  refine wp_region_lit ?_
  refine lv rfl (some 19) rfl (v := ?_) ?_ ?_
  rotate_left
  · go_simp; (try simp only [IntKind.wrap_i64, Int.reduceAdd, Int.reduceSub, Int.reduceMod, Int.reducePow, Int.reduceNeg]); try with_reducible rfl
  try simp only [Act.put, List.setIfInBounds_toArray, List.set_cons_zero, List.set_cons_succ]
  refine lv rfl (some 20) rfl (v := ?_) ?_ ?_
  rotate_left
  · go_simp; (try simp only [IntKind.wrap_i64, Int.reduceAdd, Int.reduceSub, Int.reduceMod, Int.reducePow, Int.reduceNeg]); try with_reducible rfl
  try simp only [Act.put, List.setIfInBounds_toArray, List.set_cons_zero, List.set_cons_succ]
  refine wpList_nil ?_
  go_upto_region 6 with fail
  refine wp_region_lit ?_
  refine ly M4 (some 25) rfl (yi_row 0 26 (.tmp 2) rfl rfl rfl rfl Try.underlying26 rfl (by kernel_rfl)) ?_
  try simp only [Act.put, List.setIfInBounds_toArray, List.set_cons_zero, List.set_cons_succ]
  refine ly M4 (some 26) rfl (yi_row 2 31 (.tmp 5) rfl rfl rfl rfl Try.underlying31 rfl (by kernel_rfl)) ?_
  try simp only [Act.put, List.setIfInBounds_toArray, List.set_cons_zero, List.set_cons_succ]
  refine l_call rfl (some 27) rfl (c10 _) (by kernel_rfl) (fun s5 hb5 => ?_)
  have M5 := M4.call hb5
  clear hb5 M4
  try simp only [Act.put, List.setIfInBounds_toArray, List.set_cons_zero, List.set_cons_succ]
  refine lv rfl (some 24) rfl (v := ?_) ?_ ?_
  rotate_left
  · go_simp; (try simp only [IntKind.wrap_i64, Int.reduceAdd, Int.reduceSub, Int.reduceMod, Int.reducePow, Int.reduceNeg]); try with_reducible rfl
  try simp only [Act.put, List.setIfInBounds_toArray, List.set_cons_zero, List.set_cons_succ]
  refine lv rfl (some 28) rfl (v := ?_) ?_ ?_
  rotate_left
  · go_simp; (try simp only [IntKind.wrap_i64, Int.reduceAdd, Int.reduceSub, Int.reduceMod, Int.reducePow, Int.reduceNeg]); try with_reducible rfl
  try simp only [Act.put, List.setIfInBounds_toArray, List.set_cons_zero, List.set_cons_succ]
  refine lv rfl (some 29) rfl (v := ?_) ?_ ?_
  rotate_left
  · go_simp; (try simp only [IntKind.wrap_i64, Int.reduceAdd, Int.reduceSub, Int.reduceMod, Int.reducePow, Int.reduceNeg]); try with_reducible rfl
  try simp only [Act.put, List.setIfInBounds_toArray, List.set_cons_zero, List.set_cons_succ]
  refine l_alloc rfl (some 7) rfl #[.int .u8 0, .int .u8 0, .int .u8 0, .int .u8 0, .int .u8 0, .int .u8 0, .int .u8 0, .int .u8 0, .int .u8 0, .int .u8 0, .int .u8 0, .int .u8 0, .int .u8 0, .int .u8 0, .int .u8 0, .int .u8 0] 23 (by kernel_rfl) ?_
  have M6 := M5.new rfl 23 #[.int .u8 0, .int .u8 0, .int .u8 0, .int .u8 0, .int .u8 0, .int .u8 0, .int .u8 0, .int .u8 0, .int .u8 0, .int .u8 0, .int .u8 0, .int .u8 0, .int .u8 0, .int .u8 0, .int .u8 0, .int .u8 0]
  clear M5
  try simp only [List.cons_append, List.nil_append, List.set_cons_zero, List.set_cons_succ] at M6
  try simp only [Act.put, List.setIfInBounds_toArray, List.set_cons_zero, List.set_cons_succ]
  refine l_store M6 3 rfl 23 (.tmp 7) _ rfl rfl rfl rfl _ rfl (by kernel_rfl) (by rfl) (by kernel_rfl) _ rfl (fun s7 M7 => ?_)
  clear M6
  try simp only [List.cons_append, List.nil_append, List.set_cons_zero, List.set_cons_succ] at M7
  try simp only [Act.put, List.setIfInBounds_toArray, List.set_cons_zero, List.set_cons_succ]
  refine lv rfl (some 8) rfl (v := ?_) ?_ ?_
  rotate_left
  · go_simp; (try simp only [IntKind.wrap_i64, Int.reduceAdd, Int.reduceSub, Int.reduceMod, Int.reducePow, Int.reduceNeg]); try with_reducible rfl
  try simp only [Act.put, List.setIfInBounds_toArray, List.set_cons_zero, List.set_cons_succ]
  refine wpList_nil ?_
  go_upto_region 7 with fail
  refine wp_region_lit ?_
  refine lv rfl (some 30) rfl (v := ?_) ?_ ?_
  rotate_left
  · go_simp; (try simp only [IntKind.wrap_i64, Int.reduceAdd, Int.reduceSub, Int.reduceMod, Int.reducePow, Int.reduceNeg]); try with_reducible rfl
  try simp only [Act.put, List.setIfInBounds_toArray, List.set_cons_zero, List.set_cons_succ]
  refine ly M7 (some 31) rfl (yi_cell 0 3 (.tmp 30) rfl rfl rfl _ rfl _ Try.underlying3 rfl) ?_
  try simp only [Act.put, List.setIfInBounds_toArray, List.set_cons_zero, List.set_cons_succ]
  refine lv rfl (some 32) rfl (v := ?_) ?_ ?_
  rotate_left
  · go_simp; (try simp only [IntKind.wrap_i64, Int.reduceAdd, Int.reduceSub, Int.reduceMod, Int.reducePow, Int.reduceNeg]); try with_reducible rfl
  try simp only [Act.put, List.setIfInBounds_toArray, List.set_cons_zero, List.set_cons_succ]
  refine lv rfl (some 33) rfl (v := ?_) ?_ ?_
  rotate_left
  · go_simp; (try simp only [IntKind.wrap_i64, Int.reduceAdd, Int.reduceSub, Int.reduceMod, Int.reducePow, Int.reduceNeg]); try with_reducible rfl
  try simp only [Act.put, List.setIfInBounds_toArray, List.set_cons_zero, List.set_cons_succ]
  refine lv rfl (some 9) rfl (v := ?_) ?_ ?_
  rotate_left
  · go_simp; (try simp only [IntKind.wrap_i64, Int.reduceAdd, Int.reduceSub, Int.reduceMod, Int.reducePow, Int.reduceNeg]); try with_reducible rfl
  try simp only [Act.put, List.setIfInBounds_toArray, List.set_cons_zero, List.set_cons_succ]
  refine wpList_nil ?_
  go_upto_region 8 with fail
  refine wp_region_lit ?_
  refine lv rfl (some 34) rfl (v := ?_) ?_ ?_
  rotate_left
  · go_simp; (try simp only [IntKind.wrap_i64, Int.reduceAdd, Int.reduceSub, Int.reduceMod, Int.reducePow, Int.reduceNeg]); try with_reducible rfl
  try simp only [Act.put, List.setIfInBounds_toArray, List.set_cons_zero, List.set_cons_succ]
  refine ly M7 (some 35) rfl (yi_cell 0 3 (.tmp 34) rfl rfl rfl _ rfl _ Try.underlying3 rfl) ?_
  try simp only [Act.put, List.setIfInBounds_toArray, List.set_cons_zero, List.set_cons_succ]
  refine lv rfl (some 36) rfl (v := ?_) ?_ ?_
  rotate_left
  · go_simp; (try simp only [IntKind.wrap_i64, Int.reduceAdd, Int.reduceSub, Int.reduceMod, Int.reducePow, Int.reduceNeg]); try with_reducible rfl
  try simp only [Act.put, List.setIfInBounds_toArray, List.set_cons_zero, List.set_cons_succ]
  refine lv rfl (some 37) rfl (v := ?_) ?_ ?_
  rotate_left
  · go_simp; (try simp only [IntKind.wrap_i64, Int.reduceAdd, Int.reduceSub, Int.reduceMod, Int.reducePow, Int.reduceNeg]); try with_reducible rfl
  try simp only [Act.put, List.setIfInBounds_toArray, List.set_cons_zero, List.set_cons_succ]
  refine lu rfl (some 38) rfl ?_
  try simp only [Act.put, List.setIfInBounds_toArray, List.set_cons_zero, List.set_cons_succ]
  refine lu rfl (some 39) rfl ?_
  try simp only [Act.put, List.setIfInBounds_toArray, List.set_cons_zero, List.set_cons_succ]
  refine lu rfl (some 40) rfl ?_
  try simp only [Act.put, List.setIfInBounds_toArray, List.set_cons_zero, List.set_cons_succ]
  refine lv rfl (some 41) rfl (v := ?_) ?_ ?_
  rotate_left
  · go_simp; (try simp only [IntKind.wrap_i64, Int.reduceAdd, Int.reduceSub, Int.reduceMod, Int.reducePow, Int.reduceNeg]); try with_reducible rfl
  try simp only [Act.put, List.setIfInBounds_toArray, List.set_cons_zero, List.set_cons_succ]
  refine wpList_nil ?_
  go_upto_region 10 with fail
  refine wp_region_lit ?_
  refine lv rfl (some 44) rfl (v := ?_) ?_ ?_
  rotate_left
  · go_simp; (try simp only [IntKind.wrap_i64, Int.reduceAdd, Int.reduceSub, Int.reduceMod, Int.reducePow, Int.reduceNeg]); try with_reducible rfl
  try simp only [Act.put, List.setIfInBounds_toArray, List.set_cons_zero, List.set_cons_succ]
  refine lv rfl (some 10) rfl (v := ?_) ?_ ?_
  rotate_left
  · go_simp; (try simp only [IntKind.wrap_i64, Int.reduceAdd, Int.reduceSub, Int.reduceMod, Int.reducePow, Int.reduceNeg]); try with_reducible rfl
  try simp only [Act.put, List.setIfInBounds_toArray, List.set_cons_zero, List.set_cons_succ]
  refine wpList_nil ?_
  go_wp2_with fail
  refine wp_loop_rounds 1 ?_
  rw [rounds_succ]
  go_upto_region 11 with fail
  refine wp_region_lit ?_
  refine lv rfl (some 45) rfl (v := ?_) ?_ ?_
  rotate_left
  · go_simp; (try simp only [IntKind.wrap_i64, Int.reduceAdd, Int.reduceSub, Int.reduceMod, Int.reducePow, Int.reduceNeg]); try with_reducible rfl
  try simp only [Act.put, List.setIfInBounds_toArray, List.set_cons_zero, List.set_cons_succ]
  refine lv rfl (some 46) rfl (v := ?_) ?_ ?_
  rotate_left
  · go_simp; (try simp only [IntKind.wrap_i64, Int.reduceAdd, Int.reduceSub, Int.reduceMod, Int.reducePow, Int.reduceNeg]); try with_reducible rfl
  try simp only [Act.put, List.setIfInBounds_toArray, List.set_cons_zero, List.set_cons_succ]
  refine wpList_nil ?_
  go_upto_region 14 with fail
  refine wp_region_lit ?_
  refine lv rfl (some 51) rfl (v := ?_) ?_ ?_
  rotate_left
  · go_simp; (try simp only [IntKind.wrap_i64, Int.reduceAdd, Int.reduceSub, Int.reduceMod, Int.reducePow, Int.reduceNeg]); try with_reducible rfl
  try simp only [Act.put, List.setIfInBounds_toArray, List.set_cons_zero, List.set_cons_succ]
  refine lv rfl (some 52) rfl (v := ?_) ?_ ?_
  rotate_left
  · go_simp; (try simp only [IntKind.wrap_i64, Int.reduceAdd, Int.reduceSub, Int.reduceMod, Int.reducePow, Int.reduceNeg]); try with_reducible rfl
  try simp only [Act.put, List.setIfInBounds_toArray, List.set_cons_zero, List.set_cons_succ]
  refine ly M7 (some 53) rfl (yi_row 0 26 (.tmp 2) rfl rfl rfl rfl Try.underlying26 rfl (by kernel_rfl)) ?_
  try simp only [Act.put, List.setIfInBounds_toArray, List.set_cons_zero, List.set_cons_succ]
  refine ly M7 (some 54) rfl (yi_row 1 23 (.tmp 3) rfl rfl rfl rfl Try.underlying23 rfl (by kernel_rfl)) ?_
  try simp only [Act.put, List.setIfInBounds_toArray, List.set_cons_zero, List.set_cons_succ]
  refine l_call rfl (some 55) rfl (c19 _) (by kernel_rfl) (fun s8 hb8 => ?_)
  have M8 := M7.call hb8
  clear hb8 M7
  try simp only [Act.put, List.setIfInBounds_toArray, List.set_cons_zero, List.set_cons_succ]
  refine lv rfl (some 56) rfl (v := ?_) ?_ ?_
  rotate_left
  · go_simp; (try simp only [IntKind.wrap_i64, Int.reduceAdd, Int.reduceSub, Int.reduceMod, Int.reducePow, Int.reduceNeg]); try with_reducible rfl
  try simp only [Act.put, List.setIfInBounds_toArray, List.set_cons_zero, List.set_cons_succ]
  refine lv rfl (some 57) rfl (v := ?_) ?_ ?_
  rotate_left
  · go_simp; (try simp only [IntKind.wrap_i64, Int.reduceAdd, Int.reduceSub, Int.reduceMod, Int.reducePow, Int.reduceNeg]); try with_reducible rfl
  try simp only [Act.put, List.setIfInBounds_toArray, List.set_cons_zero, List.set_cons_succ]
  refine ly M8 (some 58) rfl (yi_row 3 23 (.tmp 7) rfl rfl rfl rfl Try.underlying23 rfl (by kernel_rfl)) ?_
  try simp only [Act.put, List.setIfInBounds_toArray, List.set_cons_zero, List.set_cons_succ]
  refine ly M8 (some 59) rfl (yi_row 1 23 (.tmp 3) rfl rfl rfl rfl Try.underlying23 rfl (by kernel_rfl)) ?_
  try simp only [Act.put, List.setIfInBounds_toArray, List.set_cons_zero, List.set_cons_succ]
  refine lv rfl (some 60) rfl (v := ?_) ?_ ?_
  rotate_left
  · go_simp; (try simp only [IntKind.wrap_i64, Int.reduceAdd, Int.reduceSub, Int.reduceMod, Int.reducePow, Int.reduceNeg]); try with_reducible rfl
  try simp only [Act.put, List.setIfInBounds_toArray, List.set_cons_zero, List.set_cons_succ]
  refine lv rfl (some 61) rfl (v := ?_) ?_ ?_
  rotate_left
  · go_simp; (try simp only [IntKind.wrap_i64, Int.reduceAdd, Int.reduceSub, Int.reduceMod, Int.reducePow, Int.reduceNeg]); try with_reducible rfl
  try simp only [Act.put, List.setIfInBounds_toArray, List.set_cons_zero, List.set_cons_succ]
  refine lv rfl (some 4) rfl (v := ?_) ?_ ?_
  rotate_left
  · go_simp; (try simp only [IntKind.wrap_i64, Int.reduceAdd, Int.reduceSub, Int.reduceMod, Int.reducePow, Int.reduceNeg]); try with_reducible rfl
  try simp only [Act.put, List.setIfInBounds_toArray, List.set_cons_zero, List.set_cons_succ]
  refine wpList_nil ?_
  go_wp2_with fail
  go_ret
  exact ⟨rfl, M8.below⟩
theorem once_walk (P X : Nat → Int) (n : Int) (w : World) (bp : Bytes 16 P) (bx : Bytes 16 X) : Calls Try.prog 7 #[net P n, .agg (a16 X)] w fun e w' => e = .returned (.bool true) ∧ Below w.heap.size w w' := by
  by_cases h : InsideP P X n ∧ X 8 = 0
  · obtain ⟨h, h8⟩ := h
    have hl := h.1.1
    unfold LenOk at hl
    rcases hl with rfl | rfl | rfl | rfl | rfl | rfl
    · exact once_32 P X w bp bx h h8
    · exact once_40 P X w bp bx h h8
    · exact once_48 P X w bp bx h h8
    · exact once_56 P X w bp bx h h8
    · exact once_64 P X w bp bx h h8
    · exact once_96 P X w bp bx h h8
  · exact once_n P X n w bp bx h
end Go.Proofs.Ytafonnelennlhaa
