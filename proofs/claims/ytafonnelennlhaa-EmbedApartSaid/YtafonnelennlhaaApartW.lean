/-
  The walk of the law EmbedApart: it returns true, and what was there stays. Condition: the bytes are bytes.
-/
import Derived.Test.YtafonnelennlhaaH
namespace Go.Proofs.Ytafonnelennlhaa
open Go.RowKit
set_option linter.unusedSimpArgs false
set_option linter.unusedVariables false

theorem extract_ex {P X : Nat → Int} (n : Int) (bp : Bytes 16 P) (bx : Bytes 16 X) : ∃ (C : Nat → Int) (r : Bool), (r = true → InsideP P X n) ∧
    ∀ w, Calls Try.prog 12 #[net P n, .agg (a16 X)] w fun e w' => e = .returned (.tuple #[.agg (a4 C), .bool r]) ∧ Below w.heap.size w w' := by
  by_cases h : InsideP P X n ∧ X 8 = 0
  · exact ⟨_, true, fun _ => h.1, fun w => extract_t bp bx h.1 h.2 w⟩
  · exact ⟨_, false, fun h => (by cases h), fun w => extract_n bp bx h w⟩
theorem inside_self {P : Nat → Int} {n : Int} (h : RightP P n) : InsideP P P n := ⟨h, fun _ _ => rfl⟩
theorem inside_le {P Q X : Nat → Int} {n m : Int} (hp : InsideP P X n) (hq : InsideP Q X m) (h : n ≤ m) : InsideP P Q n := by
  refine ⟨hp.1, fun j hj => ?_⟩
  rw [hp.2 j hj, hq.2 j (by omega)]
theorem inside_eq {P Q X : Nat → Int} {n : Int} (hp : InsideP P X n) (hq : InsideP Q X n) : EqTo P Q 16 := by
  intro j hj
  by_cases h : j < (n / 8).toNat
  · rw [hp.2 j h, hq.2 j h]
  · rw [hp.1.2 j hj (.inl (by omega)), hq.1.2 j hj (.inl (by omega))]
theorem part_a (P : Nat → Int) (n : Int) (w : World) : (part 23 #[.int .u8 (P 0), .int .u8 (P 1), .int .u8 (P 2), .int .u8 (P 3), .int .u8 (P 4), .int .u8 (P 5), .int .u8 (P 6), .int .u8 (P 7), .int .u8 (P 8), .int .u8 (P 9), .int .u8 (P 10), .int .u8 (P 11), .int .u8 (P 12), .int .u8 (P 13), .int .u8 (P 14), .int .u8 (P 15), .int .i64 n] 0).run Try.prog w = .ok (.agg (a16 P)) w := by kernel_rfl
theorem part_n (P : Nat → Int) (n : Int) (w : World) : (part 3 #[.int .u8 (P 0), .int .u8 (P 1), .int .u8 (P 2), .int .u8 (P 3), .int .u8 (P 4), .int .u8 (P 5), .int .u8 (P 6), .int .u8 (P 7), .int .u8 (P 8), .int .u8 (P 9), .int .u8 (P 10), .int .u8 (P 11), .int .u8 (P 12), .int .u8 (P 13), .int .u8 (P 14), .int .u8 (P 15), .int .i64 n] 16).run Try.prog w = .ok (.int .i64 n) w := by kernel_rfl
theorem fields26 : (Try.prog.fieldsOf 26).toList.map (fun f => (f.name, f.type, f.offset)) = [("Addr", 23, 0), ("Len", 3, 16)] := by kernel_rfl
theorem eq26 {P Q : Nat → Int} (h : EqTo P Q 16) (n : Int) (w : World) : (Op.equalIn 10000 26 (net P n) (net Q n)).run Try.prog w = .ok true w := by
  rw [run_equalIn_agg w 9999 26 _ _ (by kernel_rfl) (by kernel_rfl)]
  have hf := fields26
  generalize (Try.prog.fieldsOf 26).toList = fs at hf ⊢
  match fs, hf with
  | [], hf => simp at hf
  | [f], hf => simp at hf
  | f :: g :: h :: t, hf => simp at hf
  | [f, g], hf =>
    simp only [List.map_cons, List.map_nil, List.cons.injEq, Prod.mk.injEq, and_true] at hf
    obtain ⟨⟨f1, f2, f3⟩, g1, g2, g3⟩ := hf
    have h1 : (Op.equalIn 9999 23 (.agg (a16 P)) (.agg (a16 Q))).run Try.prog w = .ok true w := by
      rw [run_equalIn_row w 9997 23 16 Try.underlying23 (a16 P) (a16 Q) P Q (get16 P) (get16 Q), (all_eq P Q 16).2 h]
    have h2 : (Op.equalIn 9999 3 (.int .i64 n) (.int .i64 n)).run Try.prog w = .ok true w := by
      rw [run_equalIn_int w 9998 3 .i64 .i64 n n Try.underlying3]; simp
    simp [Op.eqFields, f1, f2, f3, g1, g2, g3, Sem.run_bind, part_a, part_n, h1, h2]

set_option maxRecDepth 100000 in
set_option maxHeartbeats 4000000 in
theorem apart_011eq (P Q X : Nat → Int) (n : Int) (w : World) (bp : Bytes 16 P) (bq : Bytes 16 Q) (bx : Bytes 16 X) (ha : InsideP P X n) (hb : InsideP Q X n) : Calls Try.prog 8 #[net P n, net Q n, .agg (a16 X)] w fun e w' => e = .returned (.bool true) ∧ Below w.heap.size w w' := by
  have c1 := fun w => inside_t bp bx ha w
  have c2 := fun w => inside_t bq bx hb w
  obtain ⟨C, r, hC, x1⟩ := extract_ex n bp bx
  obtain ⟨D, s, hD, x2⟩ := extract_ex n bq bx
  have r1 := fun w => right_t P n w ha.1
  have i1 := fun w => inside_t bp bp (inside_self ha.1) w
  have q1 := fun w => inside_t bp bq (inside_le ha hb (by omega)) w
  have he := eq26 (inside_eq ha hb) n
  clear bp bq bx ha hb hC hD
  go_enter Try.func8, Try.ntmps8
  go_upto_region 1 with fail
  have M0 := Mem.three w 26 26 23 #[.int .u8 (P 0), .int .u8 (P 1), .int .u8 (P 2), .int .u8 (P 3), .int .u8 (P 4), .int .u8 (P 5), .int .u8 (P 6), .int .u8 (P 7), .int .u8 (P 8), .int .u8 (P 9), .int .u8 (P 10), .int .u8 (P 11), .int .u8 (P 12), .int .u8 (P 13), .int .u8 (P 14), .int .u8 (P 15), .int .i64 n] #[.int .u8 (Q 0), .int .u8 (Q 1), .int .u8 (Q 2), .int .u8 (Q 3), .int .u8 (Q 4), .int .u8 (Q 5), .int .u8 (Q 6), .int .u8 (Q 7), .int .u8 (Q 8), .int .u8 (Q 9), .int .u8 (Q 10), .int .u8 (Q 11), .int .u8 (Q 12), .int .u8 (Q 13), .int .u8 (Q 14), .int .u8 (Q 15), .int .i64 n] (a16 X)
  refine wp_region_lit ?_
  refine l_call rfl (some 13) rfl (awake_any _) (by kernel_rfl) (fun s1 hb1 => ?_)
  have M1 := M0.call hb1
  clear hb1 M0
  try simp only [Act.put, List.setIfInBounds_toArray, List.set_cons_zero, List.set_cons_succ]
  refine lv rfl (some 14) rfl (v := ?_) ?_ ?_
  rotate_left
  · go_simp; try with_reducible rfl
  try simp only [Act.put, List.setIfInBounds_toArray, List.set_cons_zero, List.set_cons_succ]
  refine wpList_nil ?_
  go_upto_region 3 with fail
  refine wp_region_held_drew (S := fun w' => Mem w w' _) (by kernel_rfl) M1.drew (fun _ => ?_)
  have M2 := M1.drew
  refine tk (i := 0) rfl (some 15) rfl (by kernel_rfl) (by kernel_rfl) (by kernel_rfl) (fun _ _ _ h => h) (yi_row 0 26 (.tmp 3) rfl rfl rfl rfl Try.underlying26 rfl (by kernel_rfl)) M2 ?_
  try simp only [Act.put, List.setIfInBounds_toArray, List.set_cons_zero, List.set_cons_succ]
  refine tk (i := 1) rfl (some 16) rfl (by kernel_rfl) (by kernel_rfl) (by kernel_rfl) (fun _ _ _ h => h) (yi_row 2 23 (.tmp 5) rfl rfl rfl rfl Try.underlying23 rfl (by kernel_rfl)) M2 ?_
  try simp only [Act.put, List.setIfInBounds_toArray, List.set_cons_zero, List.set_cons_succ]
  refine tk (i := 3) rfl (some 18) rfl (by kernel_rfl) (by kernel_rfl) (by kernel_rfl) (fun _ _ _ h => h) (yi_row 1 26 (.tmp 4) rfl rfl rfl rfl Try.underlying26 rfl (by kernel_rfl)) M2 ?_
  try simp only [Act.put, List.setIfInBounds_toArray, List.set_cons_zero, List.set_cons_succ]
  refine tk (i := 4) rfl (some 19) rfl (by kernel_rfl) (by kernel_rfl) (by kernel_rfl) (fun _ _ _ h => h) (yi_row 2 23 (.tmp 5) rfl rfl rfl rfl Try.underlying23 rfl (by kernel_rfl)) M2 ?_
  try simp only [Act.put, List.setIfInBounds_toArray, List.set_cons_zero, List.set_cons_succ]
  refine wpAnyH_ready (rs := [2]) (by kernel_rfl) (by simp) ?_
  refine br_call rfl rfl (some 17) rfl (c1 _) (by kernel_rfl) (fun w' hb => M2.call hb) (fun s3 hb3 => ?_) AllReadyH.nil
  have M3 := M2.call hb3
  clear hb3 M2
  try simp only [Act.put, List.setIfInBounds_toArray, List.set_cons_zero, List.set_cons_succ]
  refine wpAnyH_ready (rs := [5]) (by kernel_rfl) (by simp) ?_
  refine br_call rfl rfl (some 20) rfl (c2 _) (by kernel_rfl) (fun w' hb => M3.call hb) (fun s4 hb4 => ?_) AllReadyH.nil
  have M4 := M3.call hb4
  clear hb4 M3
  try simp only [Act.put, List.setIfInBounds_toArray, List.set_cons_zero, List.set_cons_succ]
  refine tk (i := 6) (v := ?_) rfl (some 7) rfl (by kernel_rfl) (by kernel_rfl) (by kernel_rfl) (fun _ _ _ h => h) (Or.inl ⟨by rfl, ?_⟩) M4 ?_
  rotate_left
  · intro w hS; go_simp; try with_reducible rfl
  try simp only [Act.put, List.setIfInBounds_toArray, List.set_cons_zero, List.set_cons_succ]
  refine tk (i := 7) (v := ?_) rfl (some 8) rfl (by kernel_rfl) (by kernel_rfl) (by kernel_rfl) (fun _ _ _ h => h) (Or.inl ⟨by rfl, ?_⟩) M4 ?_
  rotate_left
  · intro w hS; go_simp; try with_reducible rfl
  try simp only [Act.put, List.setIfInBounds_toArray, List.set_cons_zero, List.set_cons_succ]
  refine wpAnyH_done (by kernel_rfl) ?_ _
  go_upto_region 4 with fail
  refine wp_region_lit ?_
  refine lv rfl (some 21) rfl (v := ?_) ?_ ?_
  rotate_left
  · go_simp; try with_reducible rfl
  try simp only [Act.put, List.setIfInBounds_toArray, List.set_cons_zero, List.set_cons_succ]
  refine ly M4 (some 22) rfl (yi_cell 0 3 (.tmp 21) rfl rfl rfl _ rfl _ Try.underlying3 rfl) ?_
  try simp only [Act.put, List.setIfInBounds_toArray, List.set_cons_zero, List.set_cons_succ]
  refine lv rfl (some 23) rfl (v := ?_) ?_ ?_
  rotate_left
  · go_simp; try with_reducible rfl
  try simp only [Act.put, List.setIfInBounds_toArray, List.set_cons_zero, List.set_cons_succ]
  refine ly M4 (some 24) rfl (yi_cell 1 3 (.tmp 23) rfl rfl rfl _ rfl _ Try.underlying3 rfl) ?_
  try simp only [Act.put, List.setIfInBounds_toArray, List.set_cons_zero, List.set_cons_succ]
  refine lv rfl (some 25) rfl (v := ?_) ?_ ?_
  rotate_left
  · go_simp; try with_reducible rfl
  try simp only [Act.put, List.setIfInBounds_toArray, List.set_cons_zero, List.set_cons_succ]
  refine wpList_nil ?_
  go_upto_region 7 with fail
  refine wp_region_lit ?_
  refine lv rfl (some 30) rfl (v := ?_) ?_ ?_
  rotate_left
  · go_simp; try with_reducible rfl
  try simp only [Act.put, List.setIfInBounds_toArray, List.set_cons_zero, List.set_cons_succ]
  refine lv rfl (some 31) rfl (v := ?_) ?_ ?_
  rotate_left
  · go_simp; try with_reducible rfl
  try simp only [Act.put, List.setIfInBounds_toArray, List.set_cons_zero, List.set_cons_succ]
  refine lv rfl (some 32) rfl (v := ?_) ?_ ?_
  rotate_left
  · go_simp; try with_reducible rfl
  try simp only [Act.put, List.setIfInBounds_toArray, List.set_cons_zero, List.set_cons_succ]
  refine lv rfl (some 33) rfl (v := ?_) ?_ ?_
  rotate_left
  · go_simp; try with_reducible rfl
  try simp only [Act.put, List.setIfInBounds_toArray, List.set_cons_zero, List.set_cons_succ]
  refine lv rfl (some 34) rfl (v := ?_) ?_ ?_
  rotate_left
  · go_simp; try with_reducible rfl
  try simp only [Act.put, List.setIfInBounds_toArray, List.set_cons_zero, List.set_cons_succ]
  refine ly M4 (some 35) rfl (yi_row 0 26 (.tmp 3) rfl rfl rfl rfl Try.underlying26 rfl (by kernel_rfl)) ?_
  try simp only [Act.put, List.setIfInBounds_toArray, List.set_cons_zero, List.set_cons_succ]
  refine lv rfl (some 36) rfl (v := ?_) ?_ ?_
  rotate_left
  · go_simp; try with_reducible rfl
  try simp only [Act.put, List.setIfInBounds_toArray, List.set_cons_zero, List.set_cons_succ]
  refine ly M4 (some 37) rfl (yi_part 1 23 (.tmp 36) rfl rfl rfl 0 rfl (a16 Q) Try.underlying23 rfl (by kernel_rfl) (by kernel_rfl)) ?_
  try simp only [Act.put, List.setIfInBounds_toArray, List.set_cons_zero, List.set_cons_succ]
  refine l_call rfl (some 38) rfl (q1 _) (by kernel_rfl) (fun s5 hb5 => ?_)
  have M5 := M4.call hb5
  clear hb5 M4
  try simp only [Act.put, List.setIfInBounds_toArray, List.set_cons_zero, List.set_cons_succ]
  refine lv rfl (some 39) rfl (v := ?_) ?_ ?_
  rotate_left
  · go_simp; try with_reducible rfl
  try simp only [Act.put, List.setIfInBounds_toArray, List.set_cons_zero, List.set_cons_succ]
  refine lv rfl (some 40) rfl (v := ?_) ?_ ?_
  rotate_left
  · go_simp; try with_reducible rfl
  try simp only [Act.put, List.setIfInBounds_toArray, List.set_cons_zero, List.set_cons_succ]
  refine wpList_nil ?_
  go_upto_region 9 with fail
  refine wp_region_lit ?_
  refine lv rfl (some 41) rfl (v := ?_) ?_ ?_
  rotate_left
  · go_simp; try with_reducible rfl
  try simp only [Act.put, List.setIfInBounds_toArray, List.set_cons_zero, List.set_cons_succ]
  refine lv rfl (some 42) rfl (v := ?_) ?_ ?_
  rotate_left
  · go_simp; try with_reducible rfl
  try simp only [Act.put, List.setIfInBounds_toArray, List.set_cons_zero, List.set_cons_succ]
  refine lv rfl (some 43) rfl (v := ?_) ?_ ?_
  rotate_left
  · go_simp; try with_reducible rfl
  try simp only [Act.put, List.setIfInBounds_toArray, List.set_cons_zero, List.set_cons_succ]
  refine lv rfl (some 44) rfl (v := ?_) ?_ ?_
  rotate_left
  · go_simp; try with_reducible rfl
  try simp only [Act.put, List.setIfInBounds_toArray, List.set_cons_zero, List.set_cons_succ]
  refine lv rfl (some 45) rfl (v := ?_) ?_ ?_
  rotate_left
  · go_simp; try with_reducible rfl
  try simp only [Act.put, List.setIfInBounds_toArray, List.set_cons_zero, List.set_cons_succ]
  refine lv rfl (some 46) rfl (v := ?_) ?_ ?_
  rotate_left
  · go_simp; try with_reducible rfl
  try simp only [Act.put, List.setIfInBounds_toArray, List.set_cons_zero, List.set_cons_succ]
  refine ly M5 (some 47) rfl (yi_cell 0 3 (.tmp 46) rfl rfl rfl _ rfl _ Try.underlying3 rfl) ?_
  try simp only [Act.put, List.setIfInBounds_toArray, List.set_cons_zero, List.set_cons_succ]
  refine lv rfl (some 48) rfl (v := ?_) ?_ ?_
  rotate_left
  · go_simp; try with_reducible rfl
  try simp only [Act.put, List.setIfInBounds_toArray, List.set_cons_zero, List.set_cons_succ]
  refine ly M5 (some 49) rfl (yi_cell 1 3 (.tmp 48) rfl rfl rfl _ rfl _ Try.underlying3 rfl) ?_
  try simp only [Act.put, List.setIfInBounds_toArray, List.set_cons_zero, List.set_cons_succ]
  refine lv rfl (some 50) rfl (v := ?_) ?_ ?_
  rotate_left
  · go_simp; try with_reducible rfl
  try simp only [Act.put, List.setIfInBounds_toArray, List.set_cons_zero, List.set_cons_succ]
  refine lv rfl (some 51) rfl (v := ?_) ?_ ?_
  rotate_left
  · go_simp; try with_reducible rfl
  try simp only [Act.put, List.setIfInBounds_toArray, List.set_cons_zero, List.set_cons_succ]
  refine lv rfl (some 52) rfl (v := ?_) ?_ ?_
  rotate_left
  · go_simp; try with_reducible rfl
  try simp only [Act.put, List.setIfInBounds_toArray, List.set_cons_zero, List.set_cons_succ]
  refine ly M5 (some 53) rfl (yi_row 0 26 (.tmp 3) rfl rfl rfl rfl Try.underlying26 rfl (by kernel_rfl)) ?_
  try simp only [Act.put, List.setIfInBounds_toArray, List.set_cons_zero, List.set_cons_succ]
  refine ly M5 (some 54) rfl (yi_row 1 26 (.tmp 4) rfl rfl rfl rfl Try.underlying26 rfl (by kernel_rfl)) ?_
  try simp only [Act.put, List.setIfInBounds_toArray, List.set_cons_zero, List.set_cons_succ]
  refine lv rfl (some 55) rfl (v := ?_) ?_ ?_
  rotate_left
  · go_simp; try with_reducible rfl
  try simp only [Act.put, List.setIfInBounds_toArray, List.set_cons_zero, List.set_cons_succ]
  refine lv rfl (some 56) rfl (v := ?_) ?_ ?_
  rotate_left
  · go_simp; try with_reducible rfl
  try simp only [Act.put, List.setIfInBounds_toArray, List.set_cons_zero, List.set_cons_succ]
  refine wpList_nil ?_
  go_upto_region 11 with fail
  refine wp_region_lit ?_
  refine ly M5 (some 58) rfl (yi_row 0 26 (.tmp 3) rfl rfl rfl rfl Try.underlying26 rfl (by kernel_rfl)) ?_
  try simp only [Act.put, List.setIfInBounds_toArray, List.set_cons_zero, List.set_cons_succ]
  refine ly M5 (some 59) rfl (yi_row 2 23 (.tmp 5) rfl rfl rfl rfl Try.underlying23 rfl (by kernel_rfl)) ?_
  try simp only [Act.put, List.setIfInBounds_toArray, List.set_cons_zero, List.set_cons_succ]
  refine l_call rfl (some 60) rfl (x1 _) (by kernel_rfl) (fun s6 hb6 => ?_)
  have M6 := M5.call hb6
  clear hb6 M5
  try simp only [Act.put, List.setIfInBounds_toArray, List.set_cons_zero, List.set_cons_succ]
  refine lv rfl (some 57) rfl (v := ?_) ?_ ?_
  rotate_left
  · go_simp; try with_reducible rfl
  try simp only [Act.put, List.setIfInBounds_toArray, List.set_cons_zero, List.set_cons_succ]
  refine lv rfl (some 61) rfl (v := ?_) ?_ ?_
  rotate_left
  · go_simp; try with_reducible rfl
  try simp only [Act.put, List.setIfInBounds_toArray, List.set_cons_zero, List.set_cons_succ]
  refine lv rfl (some 62) rfl (v := ?_) ?_ ?_
  rotate_left
  · go_simp; try with_reducible rfl
  try simp only [Act.put, List.setIfInBounds_toArray, List.set_cons_zero, List.set_cons_succ]
  refine l_alloc rfl (some 9) rfl #[.int .u8 0, .int .u8 0, .int .u8 0, .int .u8 0] 31 (by kernel_rfl) ?_
  have M7 := M6.new rfl 31 #[.int .u8 0, .int .u8 0, .int .u8 0, .int .u8 0]
  clear M6
  try simp only [List.cons_append, List.nil_append, List.set_cons_zero, List.set_cons_succ] at M7
  try simp only [Act.put, List.setIfInBounds_toArray, List.set_cons_zero, List.set_cons_succ]
  refine l_store M7 3 rfl 31 (.tmp 9) _ rfl rfl rfl rfl _ rfl (by kernel_rfl) (by rfl) (by kernel_rfl) _ rfl (fun s8 M8 => ?_)
  clear M7
  try simp only [List.cons_append, List.nil_append, List.set_cons_zero, List.set_cons_succ] at M8
  try simp only [Act.put, List.setIfInBounds_toArray, List.set_cons_zero, List.set_cons_succ]
  refine lv rfl (some 10) rfl (v := ?_) ?_ ?_
  rotate_left
  · go_simp; try with_reducible rfl
  try simp only [Act.put, List.setIfInBounds_toArray, List.set_cons_zero, List.set_cons_succ]
  refine wpList_nil ?_
  go_upto_region 12 with fail
  refine wp_region_lit ?_
  refine ly M8 (some 64) rfl (yi_row 1 26 (.tmp 4) rfl rfl rfl rfl Try.underlying26 rfl (by kernel_rfl)) ?_
  try simp only [Act.put, List.setIfInBounds_toArray, List.set_cons_zero, List.set_cons_succ]
  refine ly M8 (some 65) rfl (yi_row 2 23 (.tmp 5) rfl rfl rfl rfl Try.underlying23 rfl (by kernel_rfl)) ?_
  try simp only [Act.put, List.setIfInBounds_toArray, List.set_cons_zero, List.set_cons_succ]
  refine l_call rfl (some 66) rfl (x2 _) (by kernel_rfl) (fun s9 hb9 => ?_)
  have M9 := M8.call hb9
  clear hb9 M8
  try simp only [Act.put, List.setIfInBounds_toArray, List.set_cons_zero, List.set_cons_succ]
  refine lv rfl (some 63) rfl (v := ?_) ?_ ?_
  rotate_left
  · go_simp; try with_reducible rfl
  try simp only [Act.put, List.setIfInBounds_toArray, List.set_cons_zero, List.set_cons_succ]
  refine lv rfl (some 67) rfl (v := ?_) ?_ ?_
  rotate_left
  · go_simp; try with_reducible rfl
  try simp only [Act.put, List.setIfInBounds_toArray, List.set_cons_zero, List.set_cons_succ]
  refine lv rfl (some 68) rfl (v := ?_) ?_ ?_
  rotate_left
  · go_simp; try with_reducible rfl
  try simp only [Act.put, List.setIfInBounds_toArray, List.set_cons_zero, List.set_cons_succ]
  refine l_alloc rfl (some 11) rfl #[.int .u8 0, .int .u8 0, .int .u8 0, .int .u8 0] 31 (by kernel_rfl) ?_
  have M10 := M9.new rfl 31 #[.int .u8 0, .int .u8 0, .int .u8 0, .int .u8 0]
  clear M9
  try simp only [List.cons_append, List.nil_append, List.set_cons_zero, List.set_cons_succ] at M10
  try simp only [Act.put, List.setIfInBounds_toArray, List.set_cons_zero, List.set_cons_succ]
  refine l_store M10 4 rfl 31 (.tmp 11) _ rfl rfl rfl rfl _ rfl (by kernel_rfl) (by rfl) (by kernel_rfl) _ rfl (fun s11 M11 => ?_)
  clear M10
  try simp only [List.cons_append, List.nil_append, List.set_cons_zero, List.set_cons_succ] at M11
  try simp only [Act.put, List.setIfInBounds_toArray, List.set_cons_zero, List.set_cons_succ]
  refine lv rfl (some 12) rfl (v := ?_) ?_ ?_
  rotate_left
  · go_simp; try with_reducible rfl
  try simp only [Act.put, List.setIfInBounds_toArray, List.set_cons_zero, List.set_cons_succ]
  refine wpList_nil ?_
  go_upto_region 13 with fail
  refine wp_region_lit ?_
  refine lv rfl (some 69) rfl (v := ?_) ?_ ?_
  rotate_left
  · go_simp; try with_reducible rfl
  try simp only [Act.put, List.setIfInBounds_toArray, List.set_cons_zero, List.set_cons_succ]
  refine lv rfl (some 70) rfl (v := ?_) ?_ ?_
  rotate_left
  · go_simp; try with_reducible rfl
  try simp only [Act.put, List.setIfInBounds_toArray, List.set_cons_zero, List.set_cons_succ]
  refine lu rfl (some 71) rfl ?_
  try simp only [Act.put, List.setIfInBounds_toArray, List.set_cons_zero, List.set_cons_succ]
  refine lu rfl (some 72) rfl ?_
  try simp only [Act.put, List.setIfInBounds_toArray, List.set_cons_zero, List.set_cons_succ]
  refine lv rfl (some 73) rfl (v := ?_) ?_ ?_
  rotate_left
  · go_simp; try with_reducible rfl
  try simp only [Act.put, List.setIfInBounds_toArray, List.set_cons_zero, List.set_cons_succ]
  refine lv rfl (some 74) rfl (v := ?_) ?_ ?_
  rotate_left
  · go_simp; try with_reducible rfl
  try simp only [Act.put, List.setIfInBounds_toArray, List.set_cons_zero, List.set_cons_succ]
  refine lv rfl (some 75) rfl (v := ?_) ?_ ?_
  rotate_left
  · go_simp; try with_reducible rfl
  try simp only [Act.put, List.setIfInBounds_toArray, List.set_cons_zero, List.set_cons_succ]
  refine lv rfl (some 76) rfl (v := ?_) ?_ ?_
  rotate_left
  · go_simp; try with_reducible rfl
  try simp only [Act.put, List.setIfInBounds_toArray, List.set_cons_zero, List.set_cons_succ]
  refine lu rfl (some 77) rfl ?_
  try simp only [Act.put, List.setIfInBounds_toArray, List.set_cons_zero, List.set_cons_succ]
  refine lu rfl (some 78) rfl ?_
  try simp only [Act.put, List.setIfInBounds_toArray, List.set_cons_zero, List.set_cons_succ]
  refine lv rfl (some 79) rfl (v := ?_) ?_ ?_
  rotate_left
  · go_simp; try with_reducible rfl
  try simp only [Act.put, List.setIfInBounds_toArray, List.set_cons_zero, List.set_cons_succ]
  refine lv rfl (some 80) rfl (v := ?_) ?_ ?_
  rotate_left
  · go_simp; try with_reducible rfl
  try simp only [Act.put, List.setIfInBounds_toArray, List.set_cons_zero, List.set_cons_succ]
  refine lv rfl (some 81) rfl (v := ?_) ?_ ?_
  rotate_left
  · go_simp; try with_reducible rfl
  try simp only [Act.put, List.setIfInBounds_toArray, List.set_cons_zero, List.set_cons_succ]
  refine ly M11 (some 82) rfl (yi_row 0 26 (.tmp 3) rfl rfl rfl rfl Try.underlying26 rfl (by kernel_rfl)) ?_
  try simp only [Act.put, List.setIfInBounds_toArray, List.set_cons_zero, List.set_cons_succ]
  refine l_call rfl (some 83) rfl (r1 _) (by kernel_rfl) (fun s12 hb12 => ?_)
  have M12 := M11.call hb12
  clear hb12 M11
  try simp only [Act.put, List.setIfInBounds_toArray, List.set_cons_zero, List.set_cons_succ]
  refine lv rfl (some 84) rfl (v := ?_) ?_ ?_
  rotate_left
  · go_simp; try with_reducible rfl
  try simp only [Act.put, List.setIfInBounds_toArray, List.set_cons_zero, List.set_cons_succ]
  refine lv rfl (some 85) rfl (v := ?_) ?_ ?_
  rotate_left
  · go_simp; try with_reducible rfl
  try simp only [Act.put, List.setIfInBounds_toArray, List.set_cons_zero, List.set_cons_succ]
  refine ly M12 (some 86) rfl (yi_row 0 26 (.tmp 3) rfl rfl rfl rfl Try.underlying26 rfl (by kernel_rfl)) ?_
  try simp only [Act.put, List.setIfInBounds_toArray, List.set_cons_zero, List.set_cons_succ]
  refine lv rfl (some 87) rfl (v := ?_) ?_ ?_
  rotate_left
  · go_simp; try with_reducible rfl
  try simp only [Act.put, List.setIfInBounds_toArray, List.set_cons_zero, List.set_cons_succ]
  refine ly M12 (some 88) rfl (yi_part 0 23 (.tmp 87) rfl rfl rfl 0 rfl (a16 P) Try.underlying23 rfl (by kernel_rfl) (by kernel_rfl)) ?_
  try simp only [Act.put, List.setIfInBounds_toArray, List.set_cons_zero, List.set_cons_succ]
  refine l_call rfl (some 89) rfl (i1 _) (by kernel_rfl) (fun s13 hb13 => ?_)
  have M13 := M12.call hb13
  clear hb13 M12
  try simp only [Act.put, List.setIfInBounds_toArray, List.set_cons_zero, List.set_cons_succ]
  refine lv rfl (some 90) rfl (v := ?_) ?_ ?_
  rotate_left
  · go_simp; try with_reducible rfl
  try simp only [Act.put, List.setIfInBounds_toArray, List.set_cons_zero, List.set_cons_succ]
  refine lv rfl (some 91) rfl (v := ?_) ?_ ?_
  rotate_left
  · go_simp; try with_reducible rfl
  try simp only [Act.put, List.setIfInBounds_toArray, List.set_cons_zero, List.set_cons_succ]
  refine lv rfl (some 6) rfl (v := ?_) ?_ ?_
  rotate_left
  · go_simp; try with_reducible rfl
  try simp only [Act.put, List.setIfInBounds_toArray, List.set_cons_zero, List.set_cons_succ]
  refine wpList_nil ?_
  go_wp2_with fail
  go_ret
  exact ⟨rfl, M13.below⟩
set_option maxRecDepth 100000 in
set_option maxHeartbeats 4000000 in
theorem apart_011lt (P Q X : Nat → Int) (n m : Int) (w : World) (bp : Bytes 16 P) (bq : Bytes 16 Q) (bx : Bytes 16 X) (hl : n < m) (ha : InsideP P X n) (hb : InsideP Q X m) : Calls Try.prog 8 #[net P n, net Q m, .agg (a16 X)] w fun e w' => e = .returned (.bool true) ∧ Below w.heap.size w w' := by
  have c1 := fun w => inside_t bp bx ha w
  have c2 := fun w => inside_t bq bx hb w
  obtain ⟨C, r, hC, x1⟩ := extract_ex n bp bx
  obtain ⟨D, s, hD, x2⟩ := extract_ex m bq bx
  have r1 := fun w => right_t P n w ha.1
  have i1 := fun w => inside_t bp bp (inside_self ha.1) w
  have q1 := fun w => inside_t bp bq (inside_le ha hb (by omega)) w
  have hne : (n == m) = false := by simp; omega
  have ht : n ≤ m := by omega
  clear bp bq bx ha hb hl hC hD
  go_enter Try.func8, Try.ntmps8
  go_upto_region 1 with fail
  have M0 := Mem.three w 26 26 23 #[.int .u8 (P 0), .int .u8 (P 1), .int .u8 (P 2), .int .u8 (P 3), .int .u8 (P 4), .int .u8 (P 5), .int .u8 (P 6), .int .u8 (P 7), .int .u8 (P 8), .int .u8 (P 9), .int .u8 (P 10), .int .u8 (P 11), .int .u8 (P 12), .int .u8 (P 13), .int .u8 (P 14), .int .u8 (P 15), .int .i64 n] #[.int .u8 (Q 0), .int .u8 (Q 1), .int .u8 (Q 2), .int .u8 (Q 3), .int .u8 (Q 4), .int .u8 (Q 5), .int .u8 (Q 6), .int .u8 (Q 7), .int .u8 (Q 8), .int .u8 (Q 9), .int .u8 (Q 10), .int .u8 (Q 11), .int .u8 (Q 12), .int .u8 (Q 13), .int .u8 (Q 14), .int .u8 (Q 15), .int .i64 m] (a16 X)
  refine wp_region_lit ?_
  refine l_call rfl (some 13) rfl (awake_any _) (by kernel_rfl) (fun s1 hb1 => ?_)
  have M1 := M0.call hb1
  clear hb1 M0
  try simp only [Act.put, List.setIfInBounds_toArray, List.set_cons_zero, List.set_cons_succ]
  refine lv rfl (some 14) rfl (v := ?_) ?_ ?_
  rotate_left
  · go_simp; try with_reducible rfl
  try simp only [Act.put, List.setIfInBounds_toArray, List.set_cons_zero, List.set_cons_succ]
  refine wpList_nil ?_
  go_upto_region 3 with fail
  refine wp_region_held_drew (S := fun w' => Mem w w' _) (by kernel_rfl) M1.drew (fun _ => ?_)
  have M2 := M1.drew
  refine tk (i := 0) rfl (some 15) rfl (by kernel_rfl) (by kernel_rfl) (by kernel_rfl) (fun _ _ _ h => h) (yi_row 0 26 (.tmp 3) rfl rfl rfl rfl Try.underlying26 rfl (by kernel_rfl)) M2 ?_
  try simp only [Act.put, List.setIfInBounds_toArray, List.set_cons_zero, List.set_cons_succ]
  refine tk (i := 1) rfl (some 16) rfl (by kernel_rfl) (by kernel_rfl) (by kernel_rfl) (fun _ _ _ h => h) (yi_row 2 23 (.tmp 5) rfl rfl rfl rfl Try.underlying23 rfl (by kernel_rfl)) M2 ?_
  try simp only [Act.put, List.setIfInBounds_toArray, List.set_cons_zero, List.set_cons_succ]
  refine tk (i := 3) rfl (some 18) rfl (by kernel_rfl) (by kernel_rfl) (by kernel_rfl) (fun _ _ _ h => h) (yi_row 1 26 (.tmp 4) rfl rfl rfl rfl Try.underlying26 rfl (by kernel_rfl)) M2 ?_
  try simp only [Act.put, List.setIfInBounds_toArray, List.set_cons_zero, List.set_cons_succ]
  refine tk (i := 4) rfl (some 19) rfl (by kernel_rfl) (by kernel_rfl) (by kernel_rfl) (fun _ _ _ h => h) (yi_row 2 23 (.tmp 5) rfl rfl rfl rfl Try.underlying23 rfl (by kernel_rfl)) M2 ?_
  try simp only [Act.put, List.setIfInBounds_toArray, List.set_cons_zero, List.set_cons_succ]
  refine wpAnyH_ready (rs := [2]) (by kernel_rfl) (by simp) ?_
  refine br_call rfl rfl (some 17) rfl (c1 _) (by kernel_rfl) (fun w' hb => M2.call hb) (fun s3 hb3 => ?_) AllReadyH.nil
  have M3 := M2.call hb3
  clear hb3 M2
  try simp only [Act.put, List.setIfInBounds_toArray, List.set_cons_zero, List.set_cons_succ]
  refine wpAnyH_ready (rs := [5]) (by kernel_rfl) (by simp) ?_
  refine br_call rfl rfl (some 20) rfl (c2 _) (by kernel_rfl) (fun w' hb => M3.call hb) (fun s4 hb4 => ?_) AllReadyH.nil
  have M4 := M3.call hb4
  clear hb4 M3
  try simp only [Act.put, List.setIfInBounds_toArray, List.set_cons_zero, List.set_cons_succ]
  refine tk (i := 6) (v := ?_) rfl (some 7) rfl (by kernel_rfl) (by kernel_rfl) (by kernel_rfl) (fun _ _ _ h => h) (Or.inl ⟨by rfl, ?_⟩) M4 ?_
  rotate_left
  · intro w hS; go_simp; try with_reducible rfl
  try simp only [Act.put, List.setIfInBounds_toArray, List.set_cons_zero, List.set_cons_succ]
  refine tk (i := 7) (v := ?_) rfl (some 8) rfl (by kernel_rfl) (by kernel_rfl) (by kernel_rfl) (fun _ _ _ h => h) (Or.inl ⟨by rfl, ?_⟩) M4 ?_
  rotate_left
  · intro w hS; go_simp; try with_reducible rfl
  try simp only [Act.put, List.setIfInBounds_toArray, List.set_cons_zero, List.set_cons_succ]
  refine wpAnyH_done (by kernel_rfl) ?_ _
  go_upto_region 4 with fail
  refine wp_region_lit ?_
  refine lv rfl (some 21) rfl (v := ?_) ?_ ?_
  rotate_left
  · go_simp; try with_reducible rfl
  try simp only [Act.put, List.setIfInBounds_toArray, List.set_cons_zero, List.set_cons_succ]
  refine ly M4 (some 22) rfl (yi_cell 0 3 (.tmp 21) rfl rfl rfl _ rfl _ Try.underlying3 rfl) ?_
  try simp only [Act.put, List.setIfInBounds_toArray, List.set_cons_zero, List.set_cons_succ]
  refine lv rfl (some 23) rfl (v := ?_) ?_ ?_
  rotate_left
  · go_simp; try with_reducible rfl
  try simp only [Act.put, List.setIfInBounds_toArray, List.set_cons_zero, List.set_cons_succ]
  refine ly M4 (some 24) rfl (yi_cell 1 3 (.tmp 23) rfl rfl rfl _ rfl _ Try.underlying3 rfl) ?_
  try simp only [Act.put, List.setIfInBounds_toArray, List.set_cons_zero, List.set_cons_succ]
  refine lv rfl (some 25) rfl (v := ?_) ?_ ?_
  rotate_left
  · go_simp; try with_reducible rfl
  try simp only [Act.put, List.setIfInBounds_toArray, List.set_cons_zero, List.set_cons_succ]
  refine wpList_nil ?_
  go_upto_region 7 with fail
  refine wp_region_lit ?_
  refine lv rfl (some 30) rfl (v := ?_) ?_ ?_
  rotate_left
  · go_simp; try with_reducible rfl
  try simp only [Act.put, List.setIfInBounds_toArray, List.set_cons_zero, List.set_cons_succ]
  refine lv rfl (some 31) rfl (v := ?_) ?_ ?_
  rotate_left
  · go_simp; try with_reducible rfl
  try simp only [Act.put, List.setIfInBounds_toArray, List.set_cons_zero, List.set_cons_succ]
  refine lv rfl (some 32) rfl (v := ?_) ?_ ?_
  rotate_left
  · go_simp; try with_reducible rfl
  try simp only [Act.put, List.setIfInBounds_toArray, List.set_cons_zero, List.set_cons_succ]
  refine lv rfl (some 33) rfl (v := ?_) ?_ ?_
  rotate_left
  · go_simp; try with_reducible rfl
  try simp only [Act.put, List.setIfInBounds_toArray, List.set_cons_zero, List.set_cons_succ]
  refine lv rfl (some 34) rfl (v := ?_) ?_ ?_
  rotate_left
  · go_simp; try with_reducible rfl
  try simp only [Act.put, List.setIfInBounds_toArray, List.set_cons_zero, List.set_cons_succ]
  refine ly M4 (some 35) rfl (yi_row 0 26 (.tmp 3) rfl rfl rfl rfl Try.underlying26 rfl (by kernel_rfl)) ?_
  try simp only [Act.put, List.setIfInBounds_toArray, List.set_cons_zero, List.set_cons_succ]
  refine lv rfl (some 36) rfl (v := ?_) ?_ ?_
  rotate_left
  · go_simp; try with_reducible rfl
  try simp only [Act.put, List.setIfInBounds_toArray, List.set_cons_zero, List.set_cons_succ]
  refine ly M4 (some 37) rfl (yi_part 1 23 (.tmp 36) rfl rfl rfl 0 rfl (a16 Q) Try.underlying23 rfl (by kernel_rfl) (by kernel_rfl)) ?_
  try simp only [Act.put, List.setIfInBounds_toArray, List.set_cons_zero, List.set_cons_succ]
  refine l_call rfl (some 38) rfl (q1 _) (by kernel_rfl) (fun s5 hb5 => ?_)
  have M5 := M4.call hb5
  clear hb5 M4
  try simp only [Act.put, List.setIfInBounds_toArray, List.set_cons_zero, List.set_cons_succ]
  refine lv rfl (some 39) rfl (v := ?_) ?_ ?_
  rotate_left
  · go_simp; try with_reducible rfl
  try simp only [Act.put, List.setIfInBounds_toArray, List.set_cons_zero, List.set_cons_succ]
  refine lv rfl (some 40) rfl (v := ?_) ?_ ?_
  rotate_left
  · go_simp; try with_reducible rfl
  try simp only [Act.put, List.setIfInBounds_toArray, List.set_cons_zero, List.set_cons_succ]
  refine wpList_nil ?_
  go_upto_region 9 with fail
  refine wp_region_lit ?_
  refine lv rfl (some 41) rfl (v := ?_) ?_ ?_
  rotate_left
  · go_simp; try with_reducible rfl
  try simp only [Act.put, List.setIfInBounds_toArray, List.set_cons_zero, List.set_cons_succ]
  refine lv rfl (some 42) rfl (v := ?_) ?_ ?_
  rotate_left
  · go_simp; try with_reducible rfl
  try simp only [Act.put, List.setIfInBounds_toArray, List.set_cons_zero, List.set_cons_succ]
  refine lv rfl (some 43) rfl (v := ?_) ?_ ?_
  rotate_left
  · go_simp; try with_reducible rfl
  try simp only [Act.put, List.setIfInBounds_toArray, List.set_cons_zero, List.set_cons_succ]
  refine lv rfl (some 44) rfl (v := ?_) ?_ ?_
  rotate_left
  · go_simp; try with_reducible rfl
  try simp only [Act.put, List.setIfInBounds_toArray, List.set_cons_zero, List.set_cons_succ]
  refine lv rfl (some 45) rfl (v := ?_) ?_ ?_
  rotate_left
  · go_simp; try with_reducible rfl
  try simp only [Act.put, List.setIfInBounds_toArray, List.set_cons_zero, List.set_cons_succ]
  refine lv rfl (some 46) rfl (v := ?_) ?_ ?_
  rotate_left
  · go_simp; try with_reducible rfl
  try simp only [Act.put, List.setIfInBounds_toArray, List.set_cons_zero, List.set_cons_succ]
  refine ly M5 (some 47) rfl (yi_cell 0 3 (.tmp 46) rfl rfl rfl _ rfl _ Try.underlying3 rfl) ?_
  try simp only [Act.put, List.setIfInBounds_toArray, List.set_cons_zero, List.set_cons_succ]
  refine lv rfl (some 48) rfl (v := ?_) ?_ ?_
  rotate_left
  · go_simp; try with_reducible rfl
  try simp only [Act.put, List.setIfInBounds_toArray, List.set_cons_zero, List.set_cons_succ]
  refine ly M5 (some 49) rfl (yi_cell 1 3 (.tmp 48) rfl rfl rfl _ rfl _ Try.underlying3 rfl) ?_
  try simp only [Act.put, List.setIfInBounds_toArray, List.set_cons_zero, List.set_cons_succ]
  refine lv rfl (some 50) rfl (v := ?_) ?_ ?_
  rotate_left
  · go_simp; try with_reducible rfl
  try simp only [Act.put, List.setIfInBounds_toArray, List.set_cons_zero, List.set_cons_succ]
  refine lv rfl (some 51) rfl (v := ?_) ?_ ?_
  rotate_left
  · go_simp; try with_reducible rfl
  try simp only [Act.put, List.setIfInBounds_toArray, List.set_cons_zero, List.set_cons_succ]
  refine lv rfl (some 52) rfl (v := ?_) ?_ ?_
  rotate_left
  · go_simp; try with_reducible rfl
  try simp only [Act.put, List.setIfInBounds_toArray, List.set_cons_zero, List.set_cons_succ]
  refine lu rfl (some 53) rfl ?_
  try simp only [Act.put, List.setIfInBounds_toArray, List.set_cons_zero, List.set_cons_succ]
  refine lu rfl (some 54) rfl ?_
  try simp only [Act.put, List.setIfInBounds_toArray, List.set_cons_zero, List.set_cons_succ]
  refine lu rfl (some 55) rfl ?_
  try simp only [Act.put, List.setIfInBounds_toArray, List.set_cons_zero, List.set_cons_succ]
  refine lv rfl (some 56) rfl (v := ?_) ?_ ?_
  rotate_left
  · go_simp; try with_reducible rfl
  try simp only [Act.put, List.setIfInBounds_toArray, List.set_cons_zero, List.set_cons_succ]
  refine wpList_nil ?_
  go_upto_region 11 with fail
  refine wp_region_lit ?_
  refine ly M5 (some 58) rfl (yi_row 0 26 (.tmp 3) rfl rfl rfl rfl Try.underlying26 rfl (by kernel_rfl)) ?_
  try simp only [Act.put, List.setIfInBounds_toArray, List.set_cons_zero, List.set_cons_succ]
  refine ly M5 (some 59) rfl (yi_row 2 23 (.tmp 5) rfl rfl rfl rfl Try.underlying23 rfl (by kernel_rfl)) ?_
  try simp only [Act.put, List.setIfInBounds_toArray, List.set_cons_zero, List.set_cons_succ]
  refine l_call rfl (some 60) rfl (x1 _) (by kernel_rfl) (fun s6 hb6 => ?_)
  have M6 := M5.call hb6
  clear hb6 M5
  try simp only [Act.put, List.setIfInBounds_toArray, List.set_cons_zero, List.set_cons_succ]
  refine lv rfl (some 57) rfl (v := ?_) ?_ ?_
  rotate_left
  · go_simp; try with_reducible rfl
  try simp only [Act.put, List.setIfInBounds_toArray, List.set_cons_zero, List.set_cons_succ]
  refine lv rfl (some 61) rfl (v := ?_) ?_ ?_
  rotate_left
  · go_simp; try with_reducible rfl
  try simp only [Act.put, List.setIfInBounds_toArray, List.set_cons_zero, List.set_cons_succ]
  refine lv rfl (some 62) rfl (v := ?_) ?_ ?_
  rotate_left
  · go_simp; try with_reducible rfl
  try simp only [Act.put, List.setIfInBounds_toArray, List.set_cons_zero, List.set_cons_succ]
  refine l_alloc rfl (some 9) rfl #[.int .u8 0, .int .u8 0, .int .u8 0, .int .u8 0] 31 (by kernel_rfl) ?_
  have M7 := M6.new rfl 31 #[.int .u8 0, .int .u8 0, .int .u8 0, .int .u8 0]
  clear M6
  try simp only [List.cons_append, List.nil_append, List.set_cons_zero, List.set_cons_succ] at M7
  try simp only [Act.put, List.setIfInBounds_toArray, List.set_cons_zero, List.set_cons_succ]
  refine l_store M7 3 rfl 31 (.tmp 9) _ rfl rfl rfl rfl _ rfl (by kernel_rfl) (by rfl) (by kernel_rfl) _ rfl (fun s8 M8 => ?_)
  clear M7
  try simp only [List.cons_append, List.nil_append, List.set_cons_zero, List.set_cons_succ] at M8
  try simp only [Act.put, List.setIfInBounds_toArray, List.set_cons_zero, List.set_cons_succ]
  refine lv rfl (some 10) rfl (v := ?_) ?_ ?_
  rotate_left
  · go_simp; try with_reducible rfl
  try simp only [Act.put, List.setIfInBounds_toArray, List.set_cons_zero, List.set_cons_succ]
  refine wpList_nil ?_
  go_upto_region 12 with fail
  refine wp_region_lit ?_
  refine ly M8 (some 64) rfl (yi_row 1 26 (.tmp 4) rfl rfl rfl rfl Try.underlying26 rfl (by kernel_rfl)) ?_
  try simp only [Act.put, List.setIfInBounds_toArray, List.set_cons_zero, List.set_cons_succ]
  refine ly M8 (some 65) rfl (yi_row 2 23 (.tmp 5) rfl rfl rfl rfl Try.underlying23 rfl (by kernel_rfl)) ?_
  try simp only [Act.put, List.setIfInBounds_toArray, List.set_cons_zero, List.set_cons_succ]
  refine l_call rfl (some 66) rfl (x2 _) (by kernel_rfl) (fun s9 hb9 => ?_)
  have M9 := M8.call hb9
  clear hb9 M8
  try simp only [Act.put, List.setIfInBounds_toArray, List.set_cons_zero, List.set_cons_succ]
  refine lv rfl (some 63) rfl (v := ?_) ?_ ?_
  rotate_left
  · go_simp; try with_reducible rfl
  try simp only [Act.put, List.setIfInBounds_toArray, List.set_cons_zero, List.set_cons_succ]
  refine lv rfl (some 67) rfl (v := ?_) ?_ ?_
  rotate_left
  · go_simp; try with_reducible rfl
  try simp only [Act.put, List.setIfInBounds_toArray, List.set_cons_zero, List.set_cons_succ]
  refine lv rfl (some 68) rfl (v := ?_) ?_ ?_
  rotate_left
  · go_simp; try with_reducible rfl
  try simp only [Act.put, List.setIfInBounds_toArray, List.set_cons_zero, List.set_cons_succ]
  refine l_alloc rfl (some 11) rfl #[.int .u8 0, .int .u8 0, .int .u8 0, .int .u8 0] 31 (by kernel_rfl) ?_
  have M10 := M9.new rfl 31 #[.int .u8 0, .int .u8 0, .int .u8 0, .int .u8 0]
  clear M9
  try simp only [List.cons_append, List.nil_append, List.set_cons_zero, List.set_cons_succ] at M10
  try simp only [Act.put, List.setIfInBounds_toArray, List.set_cons_zero, List.set_cons_succ]
  refine l_store M10 4 rfl 31 (.tmp 11) _ rfl rfl rfl rfl _ rfl (by kernel_rfl) (by rfl) (by kernel_rfl) _ rfl (fun s11 M11 => ?_)
  clear M10
  try simp only [List.cons_append, List.nil_append, List.set_cons_zero, List.set_cons_succ] at M11
  try simp only [Act.put, List.setIfInBounds_toArray, List.set_cons_zero, List.set_cons_succ]
  refine lv rfl (some 12) rfl (v := ?_) ?_ ?_
  rotate_left
  · go_simp; try with_reducible rfl
  try simp only [Act.put, List.setIfInBounds_toArray, List.set_cons_zero, List.set_cons_succ]
  refine wpList_nil ?_
  go_upto_region 13 with fail
  refine wp_region_lit ?_
  refine lv rfl (some 69) rfl (v := ?_) ?_ ?_
  rotate_left
  · go_simp; try with_reducible rfl
  try simp only [Act.put, List.setIfInBounds_toArray, List.set_cons_zero, List.set_cons_succ]
  refine lv rfl (some 70) rfl (v := ?_) ?_ ?_
  rotate_left
  · go_simp; try with_reducible rfl
  try simp only [Act.put, List.setIfInBounds_toArray, List.set_cons_zero, List.set_cons_succ]
  refine lu rfl (some 71) rfl ?_
  try simp only [Act.put, List.setIfInBounds_toArray, List.set_cons_zero, List.set_cons_succ]
  refine lu rfl (some 72) rfl ?_
  try simp only [Act.put, List.setIfInBounds_toArray, List.set_cons_zero, List.set_cons_succ]
  refine lv rfl (some 73) rfl (v := ?_) ?_ ?_
  rotate_left
  · go_simp; try with_reducible rfl
  try simp only [Act.put, List.setIfInBounds_toArray, List.set_cons_zero, List.set_cons_succ]
  refine lv rfl (some 74) rfl (v := ?_) ?_ ?_
  rotate_left
  · go_simp; try with_reducible rfl
  try simp only [Act.put, List.setIfInBounds_toArray, List.set_cons_zero, List.set_cons_succ]
  refine lv rfl (some 75) rfl (v := ?_) ?_ ?_
  rotate_left
  · go_simp; try with_reducible rfl
  try simp only [Act.put, List.setIfInBounds_toArray, List.set_cons_zero, List.set_cons_succ]
  refine lv rfl (some 76) rfl (v := ?_) ?_ ?_
  rotate_left
  · go_simp; try with_reducible rfl
  try simp only [Act.put, List.setIfInBounds_toArray, List.set_cons_zero, List.set_cons_succ]
  refine lu rfl (some 77) rfl ?_
  try simp only [Act.put, List.setIfInBounds_toArray, List.set_cons_zero, List.set_cons_succ]
  refine lu rfl (some 78) rfl ?_
  try simp only [Act.put, List.setIfInBounds_toArray, List.set_cons_zero, List.set_cons_succ]
  refine lv rfl (some 79) rfl (v := ?_) ?_ ?_
  rotate_left
  · go_simp; try with_reducible rfl
  try simp only [Act.put, List.setIfInBounds_toArray, List.set_cons_zero, List.set_cons_succ]
  refine lv rfl (some 80) rfl (v := ?_) ?_ ?_
  rotate_left
  · go_simp; try with_reducible rfl
  try simp only [Act.put, List.setIfInBounds_toArray, List.set_cons_zero, List.set_cons_succ]
  refine lv rfl (some 81) rfl (v := ?_) ?_ ?_
  rotate_left
  · go_simp; try with_reducible rfl
  try simp only [Act.put, List.setIfInBounds_toArray, List.set_cons_zero, List.set_cons_succ]
  refine ly M11 (some 82) rfl (yi_row 0 26 (.tmp 3) rfl rfl rfl rfl Try.underlying26 rfl (by kernel_rfl)) ?_
  try simp only [Act.put, List.setIfInBounds_toArray, List.set_cons_zero, List.set_cons_succ]
  refine l_call rfl (some 83) rfl (r1 _) (by kernel_rfl) (fun s12 hb12 => ?_)
  have M12 := M11.call hb12
  clear hb12 M11
  try simp only [Act.put, List.setIfInBounds_toArray, List.set_cons_zero, List.set_cons_succ]
  refine lv rfl (some 84) rfl (v := ?_) ?_ ?_
  rotate_left
  · go_simp; try with_reducible rfl
  try simp only [Act.put, List.setIfInBounds_toArray, List.set_cons_zero, List.set_cons_succ]
  refine lv rfl (some 85) rfl (v := ?_) ?_ ?_
  rotate_left
  · go_simp; try with_reducible rfl
  try simp only [Act.put, List.setIfInBounds_toArray, List.set_cons_zero, List.set_cons_succ]
  refine ly M12 (some 86) rfl (yi_row 0 26 (.tmp 3) rfl rfl rfl rfl Try.underlying26 rfl (by kernel_rfl)) ?_
  try simp only [Act.put, List.setIfInBounds_toArray, List.set_cons_zero, List.set_cons_succ]
  refine lv rfl (some 87) rfl (v := ?_) ?_ ?_
  rotate_left
  · go_simp; try with_reducible rfl
  try simp only [Act.put, List.setIfInBounds_toArray, List.set_cons_zero, List.set_cons_succ]
  refine ly M12 (some 88) rfl (yi_part 0 23 (.tmp 87) rfl rfl rfl 0 rfl (a16 P) Try.underlying23 rfl (by kernel_rfl) (by kernel_rfl)) ?_
  try simp only [Act.put, List.setIfInBounds_toArray, List.set_cons_zero, List.set_cons_succ]
  refine l_call rfl (some 89) rfl (i1 _) (by kernel_rfl) (fun s13 hb13 => ?_)
  have M13 := M12.call hb13
  clear hb13 M12
  try simp only [Act.put, List.setIfInBounds_toArray, List.set_cons_zero, List.set_cons_succ]
  refine lv rfl (some 90) rfl (v := ?_) ?_ ?_
  rotate_left
  · go_simp; try with_reducible rfl
  try simp only [Act.put, List.setIfInBounds_toArray, List.set_cons_zero, List.set_cons_succ]
  refine lv rfl (some 91) rfl (v := ?_) ?_ ?_
  rotate_left
  · go_simp; try with_reducible rfl
  try simp only [Act.put, List.setIfInBounds_toArray, List.set_cons_zero, List.set_cons_succ]
  refine lv rfl (some 6) rfl (v := ?_) ?_ ?_
  rotate_left
  · go_simp; try with_reducible rfl
  try simp only [Act.put, List.setIfInBounds_toArray, List.set_cons_zero, List.set_cons_succ]
  refine wpList_nil ?_
  go_wp2_with fail
  go_ret
  exact ⟨rfl, M13.below⟩
set_option maxRecDepth 100000 in
set_option maxHeartbeats 4000000 in
theorem apart_010x (P Q X : Nat → Int) (n m : Int) (w : World) (bp : Bytes 16 P) (bq : Bytes 16 Q) (bx : Bytes 16 X) (hl : ¬ m < n) (ha : InsideP P X n) (hb : ¬ InsideP Q X m) : Calls Try.prog 8 #[net P n, net Q m, .agg (a16 X)] w fun e w' => e = .returned (.bool true) ∧ Below w.heap.size w w' := by
  have c1 := fun w => inside_t bp bx ha w
  have c2 := fun w => inside_n bq bx hb w
  obtain ⟨C, r, hC, x1⟩ := extract_ex n bp bx
  obtain ⟨D, s, hD, x2⟩ := extract_ex m bq bx
  obtain rfl : s = false := by cases s with | false => rfl | true => exact absurd (hD rfl) hb
  have r1 := fun w => right_t P n w ha.1
  have i1 := fun w => inside_t bp bp (inside_self ha.1) w
  have ht : n ≤ m := by omega
  clear bp bq bx ha hb hl hC hD
  go_enter Try.func8, Try.ntmps8
  go_upto_region 1 with fail
  have M0 := Mem.three w 26 26 23 #[.int .u8 (P 0), .int .u8 (P 1), .int .u8 (P 2), .int .u8 (P 3), .int .u8 (P 4), .int .u8 (P 5), .int .u8 (P 6), .int .u8 (P 7), .int .u8 (P 8), .int .u8 (P 9), .int .u8 (P 10), .int .u8 (P 11), .int .u8 (P 12), .int .u8 (P 13), .int .u8 (P 14), .int .u8 (P 15), .int .i64 n] #[.int .u8 (Q 0), .int .u8 (Q 1), .int .u8 (Q 2), .int .u8 (Q 3), .int .u8 (Q 4), .int .u8 (Q 5), .int .u8 (Q 6), .int .u8 (Q 7), .int .u8 (Q 8), .int .u8 (Q 9), .int .u8 (Q 10), .int .u8 (Q 11), .int .u8 (Q 12), .int .u8 (Q 13), .int .u8 (Q 14), .int .u8 (Q 15), .int .i64 m] (a16 X)
  refine wp_region_lit ?_
  refine l_call rfl (some 13) rfl (awake_any _) (by kernel_rfl) (fun s1 hb1 => ?_)
  have M1 := M0.call hb1
  clear hb1 M0
  try simp only [Act.put, List.setIfInBounds_toArray, List.set_cons_zero, List.set_cons_succ]
  refine lv rfl (some 14) rfl (v := ?_) ?_ ?_
  rotate_left
  · go_simp; try with_reducible rfl
  try simp only [Act.put, List.setIfInBounds_toArray, List.set_cons_zero, List.set_cons_succ]
  refine wpList_nil ?_
  go_upto_region 3 with fail
  refine wp_region_held_drew (S := fun w' => Mem w w' _) (by kernel_rfl) M1.drew (fun _ => ?_)
  have M2 := M1.drew
  refine tk (i := 0) rfl (some 15) rfl (by kernel_rfl) (by kernel_rfl) (by kernel_rfl) (fun _ _ _ h => h) (yi_row 0 26 (.tmp 3) rfl rfl rfl rfl Try.underlying26 rfl (by kernel_rfl)) M2 ?_
  try simp only [Act.put, List.setIfInBounds_toArray, List.set_cons_zero, List.set_cons_succ]
  refine tk (i := 1) rfl (some 16) rfl (by kernel_rfl) (by kernel_rfl) (by kernel_rfl) (fun _ _ _ h => h) (yi_row 2 23 (.tmp 5) rfl rfl rfl rfl Try.underlying23 rfl (by kernel_rfl)) M2 ?_
  try simp only [Act.put, List.setIfInBounds_toArray, List.set_cons_zero, List.set_cons_succ]
  refine tk (i := 3) rfl (some 18) rfl (by kernel_rfl) (by kernel_rfl) (by kernel_rfl) (fun _ _ _ h => h) (yi_row 1 26 (.tmp 4) rfl rfl rfl rfl Try.underlying26 rfl (by kernel_rfl)) M2 ?_
  try simp only [Act.put, List.setIfInBounds_toArray, List.set_cons_zero, List.set_cons_succ]
  refine tk (i := 4) rfl (some 19) rfl (by kernel_rfl) (by kernel_rfl) (by kernel_rfl) (fun _ _ _ h => h) (yi_row 2 23 (.tmp 5) rfl rfl rfl rfl Try.underlying23 rfl (by kernel_rfl)) M2 ?_
  try simp only [Act.put, List.setIfInBounds_toArray, List.set_cons_zero, List.set_cons_succ]
  refine wpAnyH_ready (rs := [2]) (by kernel_rfl) (by simp) ?_
  refine br_call rfl rfl (some 17) rfl (c1 _) (by kernel_rfl) (fun w' hb => M2.call hb) (fun s3 hb3 => ?_) AllReadyH.nil
  have M3 := M2.call hb3
  clear hb3 M2
  try simp only [Act.put, List.setIfInBounds_toArray, List.set_cons_zero, List.set_cons_succ]
  refine wpAnyH_ready (rs := [5]) (by kernel_rfl) (by simp) ?_
  refine br_call rfl rfl (some 20) rfl (c2 _) (by kernel_rfl) (fun w' hb => M3.call hb) (fun s4 hb4 => ?_) AllReadyH.nil
  have M4 := M3.call hb4
  clear hb4 M3
  try simp only [Act.put, List.setIfInBounds_toArray, List.set_cons_zero, List.set_cons_succ]
  refine tk (i := 6) (v := ?_) rfl (some 7) rfl (by kernel_rfl) (by kernel_rfl) (by kernel_rfl) (fun _ _ _ h => h) (Or.inl ⟨by rfl, ?_⟩) M4 ?_
  rotate_left
  · intro w hS; go_simp; try with_reducible rfl
  try simp only [Act.put, List.setIfInBounds_toArray, List.set_cons_zero, List.set_cons_succ]
  refine tk (i := 7) (v := ?_) rfl (some 8) rfl (by kernel_rfl) (by kernel_rfl) (by kernel_rfl) (fun _ _ _ h => h) (Or.inl ⟨by rfl, ?_⟩) M4 ?_
  rotate_left
  · intro w hS; go_simp; try with_reducible rfl
  try simp only [Act.put, List.setIfInBounds_toArray, List.set_cons_zero, List.set_cons_succ]
  refine wpAnyH_done (by kernel_rfl) ?_ _
  go_upto_region 4 with fail
  refine wp_region_lit ?_
  refine lv rfl (some 21) rfl (v := ?_) ?_ ?_
  rotate_left
  · go_simp; try with_reducible rfl
  try simp only [Act.put, List.setIfInBounds_toArray, List.set_cons_zero, List.set_cons_succ]
  refine ly M4 (some 22) rfl (yi_cell 0 3 (.tmp 21) rfl rfl rfl _ rfl _ Try.underlying3 rfl) ?_
  try simp only [Act.put, List.setIfInBounds_toArray, List.set_cons_zero, List.set_cons_succ]
  refine lv rfl (some 23) rfl (v := ?_) ?_ ?_
  rotate_left
  · go_simp; try with_reducible rfl
  try simp only [Act.put, List.setIfInBounds_toArray, List.set_cons_zero, List.set_cons_succ]
  refine ly M4 (some 24) rfl (yi_cell 1 3 (.tmp 23) rfl rfl rfl _ rfl _ Try.underlying3 rfl) ?_
  try simp only [Act.put, List.setIfInBounds_toArray, List.set_cons_zero, List.set_cons_succ]
  refine lv rfl (some 25) rfl (v := ?_) ?_ ?_
  rotate_left
  · go_simp; try with_reducible rfl
  try simp only [Act.put, List.setIfInBounds_toArray, List.set_cons_zero, List.set_cons_succ]
  refine wpList_nil ?_
  go_upto_region 7 with fail
  refine wp_region_lit ?_
  refine lv rfl (some 30) rfl (v := ?_) ?_ ?_
  rotate_left
  · go_simp; try with_reducible rfl
  try simp only [Act.put, List.setIfInBounds_toArray, List.set_cons_zero, List.set_cons_succ]
  refine lv rfl (some 31) rfl (v := ?_) ?_ ?_
  rotate_left
  · go_simp; try with_reducible rfl
  try simp only [Act.put, List.setIfInBounds_toArray, List.set_cons_zero, List.set_cons_succ]
  refine lv rfl (some 32) rfl (v := ?_) ?_ ?_
  rotate_left
  · go_simp; try with_reducible rfl
  try simp only [Act.put, List.setIfInBounds_toArray, List.set_cons_zero, List.set_cons_succ]
  refine lv rfl (some 33) rfl (v := ?_) ?_ ?_
  rotate_left
  · go_simp; try with_reducible rfl
  try simp only [Act.put, List.setIfInBounds_toArray, List.set_cons_zero, List.set_cons_succ]
  refine lv rfl (some 34) rfl (v := ?_) ?_ ?_
  rotate_left
  · go_simp; try with_reducible rfl
  try simp only [Act.put, List.setIfInBounds_toArray, List.set_cons_zero, List.set_cons_succ]
  refine lu rfl (some 35) rfl ?_
  try simp only [Act.put, List.setIfInBounds_toArray, List.set_cons_zero, List.set_cons_succ]
  refine lu rfl (some 36) rfl ?_
  try simp only [Act.put, List.setIfInBounds_toArray, List.set_cons_zero, List.set_cons_succ]
  refine lu rfl (some 37) rfl ?_
  try simp only [Act.put, List.setIfInBounds_toArray, List.set_cons_zero, List.set_cons_succ]
  refine lu rfl (some 38) rfl ?_
  try simp only [Act.put, List.setIfInBounds_toArray, List.set_cons_zero, List.set_cons_succ]
  refine lu rfl (some 39) rfl ?_
  try simp only [Act.put, List.setIfInBounds_toArray, List.set_cons_zero, List.set_cons_succ]
  refine lv rfl (some 40) rfl (v := ?_) ?_ ?_
  rotate_left
  · go_simp; try with_reducible rfl
  try simp only [Act.put, List.setIfInBounds_toArray, List.set_cons_zero, List.set_cons_succ]
  refine wpList_nil ?_
  go_upto_region 9 with fail
  refine wp_region_lit ?_
  refine lv rfl (some 41) rfl (v := ?_) ?_ ?_
  rotate_left
  · go_simp; try with_reducible rfl
  try simp only [Act.put, List.setIfInBounds_toArray, List.set_cons_zero, List.set_cons_succ]
  refine lv rfl (some 42) rfl (v := ?_) ?_ ?_
  rotate_left
  · go_simp; try with_reducible rfl
  try simp only [Act.put, List.setIfInBounds_toArray, List.set_cons_zero, List.set_cons_succ]
  refine lv rfl (some 43) rfl (v := ?_) ?_ ?_
  rotate_left
  · go_simp; try with_reducible rfl
  try simp only [Act.put, List.setIfInBounds_toArray, List.set_cons_zero, List.set_cons_succ]
  refine lv rfl (some 44) rfl (v := ?_) ?_ ?_
  rotate_left
  · go_simp; try with_reducible rfl
  try simp only [Act.put, List.setIfInBounds_toArray, List.set_cons_zero, List.set_cons_succ]
  refine lv rfl (some 45) rfl (v := ?_) ?_ ?_
  rotate_left
  · go_simp; try with_reducible rfl
  try simp only [Act.put, List.setIfInBounds_toArray, List.set_cons_zero, List.set_cons_succ]
  refine lu rfl (some 46) rfl ?_
  try simp only [Act.put, List.setIfInBounds_toArray, List.set_cons_zero, List.set_cons_succ]
  refine lu rfl (some 47) rfl ?_
  try simp only [Act.put, List.setIfInBounds_toArray, List.set_cons_zero, List.set_cons_succ]
  refine lu rfl (some 48) rfl ?_
  try simp only [Act.put, List.setIfInBounds_toArray, List.set_cons_zero, List.set_cons_succ]
  refine lu rfl (some 49) rfl ?_
  try simp only [Act.put, List.setIfInBounds_toArray, List.set_cons_zero, List.set_cons_succ]
  refine lu rfl (some 50) rfl ?_
  try simp only [Act.put, List.setIfInBounds_toArray, List.set_cons_zero, List.set_cons_succ]
  refine lv rfl (some 51) rfl (v := ?_) ?_ ?_
  rotate_left
  · go_simp; try with_reducible rfl
  try simp only [Act.put, List.setIfInBounds_toArray, List.set_cons_zero, List.set_cons_succ]
  refine lv rfl (some 52) rfl (v := ?_) ?_ ?_
  rotate_left
  · go_simp; try with_reducible rfl
  try simp only [Act.put, List.setIfInBounds_toArray, List.set_cons_zero, List.set_cons_succ]
  refine lu rfl (some 53) rfl ?_
  try simp only [Act.put, List.setIfInBounds_toArray, List.set_cons_zero, List.set_cons_succ]
  refine lu rfl (some 54) rfl ?_
  try simp only [Act.put, List.setIfInBounds_toArray, List.set_cons_zero, List.set_cons_succ]
  refine lu rfl (some 55) rfl ?_
  try simp only [Act.put, List.setIfInBounds_toArray, List.set_cons_zero, List.set_cons_succ]
  refine lv rfl (some 56) rfl (v := ?_) ?_ ?_
  rotate_left
  · go_simp; try with_reducible rfl
  try simp only [Act.put, List.setIfInBounds_toArray, List.set_cons_zero, List.set_cons_succ]
  refine wpList_nil ?_
  go_upto_region 11 with fail
  refine wp_region_lit ?_
  refine ly M4 (some 58) rfl (yi_row 0 26 (.tmp 3) rfl rfl rfl rfl Try.underlying26 rfl (by kernel_rfl)) ?_
  try simp only [Act.put, List.setIfInBounds_toArray, List.set_cons_zero, List.set_cons_succ]
  refine ly M4 (some 59) rfl (yi_row 2 23 (.tmp 5) rfl rfl rfl rfl Try.underlying23 rfl (by kernel_rfl)) ?_
  try simp only [Act.put, List.setIfInBounds_toArray, List.set_cons_zero, List.set_cons_succ]
  refine l_call rfl (some 60) rfl (x1 _) (by kernel_rfl) (fun s5 hb5 => ?_)
  have M5 := M4.call hb5
  clear hb5 M4
  try simp only [Act.put, List.setIfInBounds_toArray, List.set_cons_zero, List.set_cons_succ]
  refine lv rfl (some 57) rfl (v := ?_) ?_ ?_
  rotate_left
  · go_simp; try with_reducible rfl
  try simp only [Act.put, List.setIfInBounds_toArray, List.set_cons_zero, List.set_cons_succ]
  refine lv rfl (some 61) rfl (v := ?_) ?_ ?_
  rotate_left
  · go_simp; try with_reducible rfl
  try simp only [Act.put, List.setIfInBounds_toArray, List.set_cons_zero, List.set_cons_succ]
  refine lv rfl (some 62) rfl (v := ?_) ?_ ?_
  rotate_left
  · go_simp; try with_reducible rfl
  try simp only [Act.put, List.setIfInBounds_toArray, List.set_cons_zero, List.set_cons_succ]
  refine l_alloc rfl (some 9) rfl #[.int .u8 0, .int .u8 0, .int .u8 0, .int .u8 0] 31 (by kernel_rfl) ?_
  have M6 := M5.new rfl 31 #[.int .u8 0, .int .u8 0, .int .u8 0, .int .u8 0]
  clear M5
  try simp only [List.cons_append, List.nil_append, List.set_cons_zero, List.set_cons_succ] at M6
  try simp only [Act.put, List.setIfInBounds_toArray, List.set_cons_zero, List.set_cons_succ]
  refine l_store M6 3 rfl 31 (.tmp 9) _ rfl rfl rfl rfl _ rfl (by kernel_rfl) (by rfl) (by kernel_rfl) _ rfl (fun s7 M7 => ?_)
  clear M6
  try simp only [List.cons_append, List.nil_append, List.set_cons_zero, List.set_cons_succ] at M7
  try simp only [Act.put, List.setIfInBounds_toArray, List.set_cons_zero, List.set_cons_succ]
  refine lv rfl (some 10) rfl (v := ?_) ?_ ?_
  rotate_left
  · go_simp; try with_reducible rfl
  try simp only [Act.put, List.setIfInBounds_toArray, List.set_cons_zero, List.set_cons_succ]
  refine wpList_nil ?_
  go_upto_region 12 with fail
  refine wp_region_lit ?_
  refine ly M7 (some 64) rfl (yi_row 1 26 (.tmp 4) rfl rfl rfl rfl Try.underlying26 rfl (by kernel_rfl)) ?_
  try simp only [Act.put, List.setIfInBounds_toArray, List.set_cons_zero, List.set_cons_succ]
  refine ly M7 (some 65) rfl (yi_row 2 23 (.tmp 5) rfl rfl rfl rfl Try.underlying23 rfl (by kernel_rfl)) ?_
  try simp only [Act.put, List.setIfInBounds_toArray, List.set_cons_zero, List.set_cons_succ]
  refine l_call rfl (some 66) rfl (x2 _) (by kernel_rfl) (fun s8 hb8 => ?_)
  have M8 := M7.call hb8
  clear hb8 M7
  try simp only [Act.put, List.setIfInBounds_toArray, List.set_cons_zero, List.set_cons_succ]
  refine lv rfl (some 63) rfl (v := ?_) ?_ ?_
  rotate_left
  · go_simp; try with_reducible rfl
  try simp only [Act.put, List.setIfInBounds_toArray, List.set_cons_zero, List.set_cons_succ]
  refine lv rfl (some 67) rfl (v := ?_) ?_ ?_
  rotate_left
  · go_simp; try with_reducible rfl
  try simp only [Act.put, List.setIfInBounds_toArray, List.set_cons_zero, List.set_cons_succ]
  refine lv rfl (some 68) rfl (v := ?_) ?_ ?_
  rotate_left
  · go_simp; try with_reducible rfl
  try simp only [Act.put, List.setIfInBounds_toArray, List.set_cons_zero, List.set_cons_succ]
  refine l_alloc rfl (some 11) rfl #[.int .u8 0, .int .u8 0, .int .u8 0, .int .u8 0] 31 (by kernel_rfl) ?_
  have M9 := M8.new rfl 31 #[.int .u8 0, .int .u8 0, .int .u8 0, .int .u8 0]
  clear M8
  try simp only [List.cons_append, List.nil_append, List.set_cons_zero, List.set_cons_succ] at M9
  try simp only [Act.put, List.setIfInBounds_toArray, List.set_cons_zero, List.set_cons_succ]
  refine l_store M9 4 rfl 31 (.tmp 11) _ rfl rfl rfl rfl _ rfl (by kernel_rfl) (by rfl) (by kernel_rfl) _ rfl (fun s10 M10 => ?_)
  clear M9
  try simp only [List.cons_append, List.nil_append, List.set_cons_zero, List.set_cons_succ] at M10
  try simp only [Act.put, List.setIfInBounds_toArray, List.set_cons_zero, List.set_cons_succ]
  refine lv rfl (some 12) rfl (v := ?_) ?_ ?_
  rotate_left
  · go_simp; try with_reducible rfl
  try simp only [Act.put, List.setIfInBounds_toArray, List.set_cons_zero, List.set_cons_succ]
  refine wpList_nil ?_
  go_upto_region 13 with fail
  refine wp_region_lit ?_
  refine lv rfl (some 69) rfl (v := ?_) ?_ ?_
  rotate_left
  · go_simp; try with_reducible rfl
  try simp only [Act.put, List.setIfInBounds_toArray, List.set_cons_zero, List.set_cons_succ]
  refine lv rfl (some 70) rfl (v := ?_) ?_ ?_
  rotate_left
  · go_simp; try with_reducible rfl
  try simp only [Act.put, List.setIfInBounds_toArray, List.set_cons_zero, List.set_cons_succ]
  refine lu rfl (some 71) rfl ?_
  try simp only [Act.put, List.setIfInBounds_toArray, List.set_cons_zero, List.set_cons_succ]
  refine lu rfl (some 72) rfl ?_
  try simp only [Act.put, List.setIfInBounds_toArray, List.set_cons_zero, List.set_cons_succ]
  refine lv rfl (some 73) rfl (v := ?_) ?_ ?_
  rotate_left
  · go_simp; try with_reducible rfl
  try simp only [Act.put, List.setIfInBounds_toArray, List.set_cons_zero, List.set_cons_succ]
  refine lv rfl (some 74) rfl (v := ?_) ?_ ?_
  rotate_left
  · go_simp; try with_reducible rfl
  try simp only [Act.put, List.setIfInBounds_toArray, List.set_cons_zero, List.set_cons_succ]
  refine lv rfl (some 75) rfl (v := ?_) ?_ ?_
  rotate_left
  · go_simp; try with_reducible rfl
  try simp only [Act.put, List.setIfInBounds_toArray, List.set_cons_zero, List.set_cons_succ]
  refine lv rfl (some 76) rfl (v := ?_) ?_ ?_
  rotate_left
  · go_simp; try with_reducible rfl
  try simp only [Act.put, List.setIfInBounds_toArray, List.set_cons_zero, List.set_cons_succ]
  refine lv rfl (some 77) rfl (v := ?_) ?_ ?_
  rotate_left
  · go_simp; try with_reducible rfl
  try simp only [Act.put, List.setIfInBounds_toArray, List.set_cons_zero, List.set_cons_succ]
  refine lv rfl (some 78) rfl (v := ?_) ?_ ?_
  rotate_left
  · go_simp; try with_reducible rfl
  try simp only [Act.put, List.setIfInBounds_toArray, List.set_cons_zero, List.set_cons_succ]
  refine lv rfl (some 79) rfl (v := ?_) ?_ ?_
  rotate_left
  · go_simp; try with_reducible rfl
  try simp only [Act.put, List.setIfInBounds_toArray, List.set_cons_zero, List.set_cons_succ]
  refine lv rfl (some 80) rfl (v := ?_) ?_ ?_
  rotate_left
  · go_simp; try with_reducible rfl
  try simp only [Act.put, List.setIfInBounds_toArray, List.set_cons_zero, List.set_cons_succ]
  refine lv rfl (some 81) rfl (v := ?_) ?_ ?_
  rotate_left
  · go_simp; try with_reducible rfl
  try simp only [Act.put, List.setIfInBounds_toArray, List.set_cons_zero, List.set_cons_succ]
  refine ly M10 (some 82) rfl (yi_row 0 26 (.tmp 3) rfl rfl rfl rfl Try.underlying26 rfl (by kernel_rfl)) ?_
  try simp only [Act.put, List.setIfInBounds_toArray, List.set_cons_zero, List.set_cons_succ]
  refine l_call rfl (some 83) rfl (r1 _) (by kernel_rfl) (fun s11 hb11 => ?_)
  have M11 := M10.call hb11
  clear hb11 M10
  try simp only [Act.put, List.setIfInBounds_toArray, List.set_cons_zero, List.set_cons_succ]
  refine lv rfl (some 84) rfl (v := ?_) ?_ ?_
  rotate_left
  · go_simp; try with_reducible rfl
  try simp only [Act.put, List.setIfInBounds_toArray, List.set_cons_zero, List.set_cons_succ]
  refine lv rfl (some 85) rfl (v := ?_) ?_ ?_
  rotate_left
  · go_simp; try with_reducible rfl
  try simp only [Act.put, List.setIfInBounds_toArray, List.set_cons_zero, List.set_cons_succ]
  refine ly M11 (some 86) rfl (yi_row 0 26 (.tmp 3) rfl rfl rfl rfl Try.underlying26 rfl (by kernel_rfl)) ?_
  try simp only [Act.put, List.setIfInBounds_toArray, List.set_cons_zero, List.set_cons_succ]
  refine lv rfl (some 87) rfl (v := ?_) ?_ ?_
  rotate_left
  · go_simp; try with_reducible rfl
  try simp only [Act.put, List.setIfInBounds_toArray, List.set_cons_zero, List.set_cons_succ]
  refine ly M11 (some 88) rfl (yi_part 0 23 (.tmp 87) rfl rfl rfl 0 rfl (a16 P) Try.underlying23 rfl (by kernel_rfl) (by kernel_rfl)) ?_
  try simp only [Act.put, List.setIfInBounds_toArray, List.set_cons_zero, List.set_cons_succ]
  refine l_call rfl (some 89) rfl (i1 _) (by kernel_rfl) (fun s12 hb12 => ?_)
  have M12 := M11.call hb12
  clear hb12 M11
  try simp only [Act.put, List.setIfInBounds_toArray, List.set_cons_zero, List.set_cons_succ]
  refine lv rfl (some 90) rfl (v := ?_) ?_ ?_
  rotate_left
  · go_simp; try with_reducible rfl
  try simp only [Act.put, List.setIfInBounds_toArray, List.set_cons_zero, List.set_cons_succ]
  refine lv rfl (some 91) rfl (v := ?_) ?_ ?_
  rotate_left
  · go_simp; try with_reducible rfl
  try simp only [Act.put, List.setIfInBounds_toArray, List.set_cons_zero, List.set_cons_succ]
  refine lv rfl (some 6) rfl (v := ?_) ?_ ?_
  rotate_left
  · go_simp; try with_reducible rfl
  try simp only [Act.put, List.setIfInBounds_toArray, List.set_cons_zero, List.set_cons_succ]
  refine wpList_nil ?_
  go_wp2_with fail
  go_ret
  exact ⟨rfl, M12.below⟩
set_option maxRecDepth 100000 in
set_option maxHeartbeats 4000000 in
theorem apart_001r (P Q X : Nat → Int) (n m : Int) (w : World) (bp : Bytes 16 P) (bq : Bytes 16 Q) (bx : Bytes 16 X) (hl : ¬ m < n) (ha : ¬ InsideP P X n) (hb : InsideP Q X m) (hr : RightP P n) : Calls Try.prog 8 #[net P n, net Q m, .agg (a16 X)] w fun e w' => e = .returned (.bool true) ∧ Below w.heap.size w w' := by
  have c1 := fun w => inside_n bp bx ha w
  have c2 := fun w => inside_t bq bx hb w
  obtain ⟨C, r, hC, x1⟩ := extract_ex n bp bx
  obtain ⟨D, s, hD, x2⟩ := extract_ex m bq bx
  obtain rfl : r = false := by cases r with | false => rfl | true => exact absurd (hC rfl) ha
  have r1 := fun w => right_t P n w hr
  have i1 := fun w => inside_t bp bp (inside_self hr) w
  have ht : n ≤ m := by omega
  clear bp bq bx ha hb hl hC hD hr
  go_enter Try.func8, Try.ntmps8
  go_upto_region 1 with fail
  have M0 := Mem.three w 26 26 23 #[.int .u8 (P 0), .int .u8 (P 1), .int .u8 (P 2), .int .u8 (P 3), .int .u8 (P 4), .int .u8 (P 5), .int .u8 (P 6), .int .u8 (P 7), .int .u8 (P 8), .int .u8 (P 9), .int .u8 (P 10), .int .u8 (P 11), .int .u8 (P 12), .int .u8 (P 13), .int .u8 (P 14), .int .u8 (P 15), .int .i64 n] #[.int .u8 (Q 0), .int .u8 (Q 1), .int .u8 (Q 2), .int .u8 (Q 3), .int .u8 (Q 4), .int .u8 (Q 5), .int .u8 (Q 6), .int .u8 (Q 7), .int .u8 (Q 8), .int .u8 (Q 9), .int .u8 (Q 10), .int .u8 (Q 11), .int .u8 (Q 12), .int .u8 (Q 13), .int .u8 (Q 14), .int .u8 (Q 15), .int .i64 m] (a16 X)
  refine wp_region_lit ?_
  refine l_call rfl (some 13) rfl (awake_any _) (by kernel_rfl) (fun s1 hb1 => ?_)
  have M1 := M0.call hb1
  clear hb1 M0
  try simp only [Act.put, List.setIfInBounds_toArray, List.set_cons_zero, List.set_cons_succ]
  refine lv rfl (some 14) rfl (v := ?_) ?_ ?_
  rotate_left
  · go_simp; try with_reducible rfl
  try simp only [Act.put, List.setIfInBounds_toArray, List.set_cons_zero, List.set_cons_succ]
  refine wpList_nil ?_
  go_upto_region 3 with fail
  refine wp_region_held_drew (S := fun w' => Mem w w' _) (by kernel_rfl) M1.drew (fun _ => ?_)
  have M2 := M1.drew
  refine tk (i := 0) rfl (some 15) rfl (by kernel_rfl) (by kernel_rfl) (by kernel_rfl) (fun _ _ _ h => h) (yi_row 0 26 (.tmp 3) rfl rfl rfl rfl Try.underlying26 rfl (by kernel_rfl)) M2 ?_
  try simp only [Act.put, List.setIfInBounds_toArray, List.set_cons_zero, List.set_cons_succ]
  refine tk (i := 1) rfl (some 16) rfl (by kernel_rfl) (by kernel_rfl) (by kernel_rfl) (fun _ _ _ h => h) (yi_row 2 23 (.tmp 5) rfl rfl rfl rfl Try.underlying23 rfl (by kernel_rfl)) M2 ?_
  try simp only [Act.put, List.setIfInBounds_toArray, List.set_cons_zero, List.set_cons_succ]
  refine tk (i := 3) rfl (some 18) rfl (by kernel_rfl) (by kernel_rfl) (by kernel_rfl) (fun _ _ _ h => h) (yi_row 1 26 (.tmp 4) rfl rfl rfl rfl Try.underlying26 rfl (by kernel_rfl)) M2 ?_
  try simp only [Act.put, List.setIfInBounds_toArray, List.set_cons_zero, List.set_cons_succ]
  refine tk (i := 4) rfl (some 19) rfl (by kernel_rfl) (by kernel_rfl) (by kernel_rfl) (fun _ _ _ h => h) (yi_row 2 23 (.tmp 5) rfl rfl rfl rfl Try.underlying23 rfl (by kernel_rfl)) M2 ?_
  try simp only [Act.put, List.setIfInBounds_toArray, List.set_cons_zero, List.set_cons_succ]
  refine wpAnyH_ready (rs := [2]) (by kernel_rfl) (by simp) ?_
  refine br_call rfl rfl (some 17) rfl (c1 _) (by kernel_rfl) (fun w' hb => M2.call hb) (fun s3 hb3 => ?_) AllReadyH.nil
  have M3 := M2.call hb3
  clear hb3 M2
  try simp only [Act.put, List.setIfInBounds_toArray, List.set_cons_zero, List.set_cons_succ]
  refine wpAnyH_ready (rs := [5]) (by kernel_rfl) (by simp) ?_
  refine br_call rfl rfl (some 20) rfl (c2 _) (by kernel_rfl) (fun w' hb => M3.call hb) (fun s4 hb4 => ?_) AllReadyH.nil
  have M4 := M3.call hb4
  clear hb4 M3
  try simp only [Act.put, List.setIfInBounds_toArray, List.set_cons_zero, List.set_cons_succ]
  refine tk (i := 6) (v := ?_) rfl (some 7) rfl (by kernel_rfl) (by kernel_rfl) (by kernel_rfl) (fun _ _ _ h => h) (Or.inl ⟨by rfl, ?_⟩) M4 ?_
  rotate_left
  · intro w hS; go_simp; try with_reducible rfl
  try simp only [Act.put, List.setIfInBounds_toArray, List.set_cons_zero, List.set_cons_succ]
  refine tk (i := 7) (v := ?_) rfl (some 8) rfl (by kernel_rfl) (by kernel_rfl) (by kernel_rfl) (fun _ _ _ h => h) (Or.inl ⟨by rfl, ?_⟩) M4 ?_
  rotate_left
  · intro w hS; go_simp; try with_reducible rfl
  try simp only [Act.put, List.setIfInBounds_toArray, List.set_cons_zero, List.set_cons_succ]
  refine wpAnyH_done (by kernel_rfl) ?_ _
  go_upto_region 4 with fail
  refine wp_region_lit ?_
  refine lv rfl (some 21) rfl (v := ?_) ?_ ?_
  rotate_left
  · go_simp; try with_reducible rfl
  try simp only [Act.put, List.setIfInBounds_toArray, List.set_cons_zero, List.set_cons_succ]
  refine ly M4 (some 22) rfl (yi_cell 0 3 (.tmp 21) rfl rfl rfl _ rfl _ Try.underlying3 rfl) ?_
  try simp only [Act.put, List.setIfInBounds_toArray, List.set_cons_zero, List.set_cons_succ]
  refine lv rfl (some 23) rfl (v := ?_) ?_ ?_
  rotate_left
  · go_simp; try with_reducible rfl
  try simp only [Act.put, List.setIfInBounds_toArray, List.set_cons_zero, List.set_cons_succ]
  refine ly M4 (some 24) rfl (yi_cell 1 3 (.tmp 23) rfl rfl rfl _ rfl _ Try.underlying3 rfl) ?_
  try simp only [Act.put, List.setIfInBounds_toArray, List.set_cons_zero, List.set_cons_succ]
  refine lv rfl (some 25) rfl (v := ?_) ?_ ?_
  rotate_left
  · go_simp; try with_reducible rfl
  try simp only [Act.put, List.setIfInBounds_toArray, List.set_cons_zero, List.set_cons_succ]
  refine wpList_nil ?_
  go_upto_region 7 with fail
  refine wp_region_lit ?_
  refine lv rfl (some 30) rfl (v := ?_) ?_ ?_
  rotate_left
  · go_simp; try with_reducible rfl
  try simp only [Act.put, List.setIfInBounds_toArray, List.set_cons_zero, List.set_cons_succ]
  refine lv rfl (some 31) rfl (v := ?_) ?_ ?_
  rotate_left
  · go_simp; try with_reducible rfl
  try simp only [Act.put, List.setIfInBounds_toArray, List.set_cons_zero, List.set_cons_succ]
  refine lu rfl (some 32) rfl ?_
  try simp only [Act.put, List.setIfInBounds_toArray, List.set_cons_zero, List.set_cons_succ]
  refine lv rfl (some 33) rfl (v := ?_) ?_ ?_
  rotate_left
  · go_simp; try with_reducible rfl
  try simp only [Act.put, List.setIfInBounds_toArray, List.set_cons_zero, List.set_cons_succ]
  refine lv rfl (some 34) rfl (v := ?_) ?_ ?_
  rotate_left
  · go_simp; try with_reducible rfl
  try simp only [Act.put, List.setIfInBounds_toArray, List.set_cons_zero, List.set_cons_succ]
  refine lu rfl (some 35) rfl ?_
  try simp only [Act.put, List.setIfInBounds_toArray, List.set_cons_zero, List.set_cons_succ]
  refine lu rfl (some 36) rfl ?_
  try simp only [Act.put, List.setIfInBounds_toArray, List.set_cons_zero, List.set_cons_succ]
  refine lu rfl (some 37) rfl ?_
  try simp only [Act.put, List.setIfInBounds_toArray, List.set_cons_zero, List.set_cons_succ]
  refine lu rfl (some 38) rfl ?_
  try simp only [Act.put, List.setIfInBounds_toArray, List.set_cons_zero, List.set_cons_succ]
  refine lu rfl (some 39) rfl ?_
  try simp only [Act.put, List.setIfInBounds_toArray, List.set_cons_zero, List.set_cons_succ]
  refine lv rfl (some 40) rfl (v := ?_) ?_ ?_
  rotate_left
  · go_simp; try with_reducible rfl
  try simp only [Act.put, List.setIfInBounds_toArray, List.set_cons_zero, List.set_cons_succ]
  refine wpList_nil ?_
  go_upto_region 9 with fail
  refine wp_region_lit ?_
  refine lv rfl (some 41) rfl (v := ?_) ?_ ?_
  rotate_left
  · go_simp; try with_reducible rfl
  try simp only [Act.put, List.setIfInBounds_toArray, List.set_cons_zero, List.set_cons_succ]
  refine lv rfl (some 42) rfl (v := ?_) ?_ ?_
  rotate_left
  · go_simp; try with_reducible rfl
  try simp only [Act.put, List.setIfInBounds_toArray, List.set_cons_zero, List.set_cons_succ]
  refine lu rfl (some 43) rfl ?_
  try simp only [Act.put, List.setIfInBounds_toArray, List.set_cons_zero, List.set_cons_succ]
  refine lv rfl (some 44) rfl (v := ?_) ?_ ?_
  rotate_left
  · go_simp; try with_reducible rfl
  try simp only [Act.put, List.setIfInBounds_toArray, List.set_cons_zero, List.set_cons_succ]
  refine lv rfl (some 45) rfl (v := ?_) ?_ ?_
  rotate_left
  · go_simp; try with_reducible rfl
  try simp only [Act.put, List.setIfInBounds_toArray, List.set_cons_zero, List.set_cons_succ]
  refine lu rfl (some 46) rfl ?_
  try simp only [Act.put, List.setIfInBounds_toArray, List.set_cons_zero, List.set_cons_succ]
  refine lu rfl (some 47) rfl ?_
  try simp only [Act.put, List.setIfInBounds_toArray, List.set_cons_zero, List.set_cons_succ]
  refine lu rfl (some 48) rfl ?_
  try simp only [Act.put, List.setIfInBounds_toArray, List.set_cons_zero, List.set_cons_succ]
  refine lu rfl (some 49) rfl ?_
  try simp only [Act.put, List.setIfInBounds_toArray, List.set_cons_zero, List.set_cons_succ]
  refine lu rfl (some 50) rfl ?_
  try simp only [Act.put, List.setIfInBounds_toArray, List.set_cons_zero, List.set_cons_succ]
  refine lv rfl (some 51) rfl (v := ?_) ?_ ?_
  rotate_left
  · go_simp; try with_reducible rfl
  try simp only [Act.put, List.setIfInBounds_toArray, List.set_cons_zero, List.set_cons_succ]
  refine lv rfl (some 52) rfl (v := ?_) ?_ ?_
  rotate_left
  · go_simp; try with_reducible rfl
  try simp only [Act.put, List.setIfInBounds_toArray, List.set_cons_zero, List.set_cons_succ]
  refine lu rfl (some 53) rfl ?_
  try simp only [Act.put, List.setIfInBounds_toArray, List.set_cons_zero, List.set_cons_succ]
  refine lu rfl (some 54) rfl ?_
  try simp only [Act.put, List.setIfInBounds_toArray, List.set_cons_zero, List.set_cons_succ]
  refine lu rfl (some 55) rfl ?_
  try simp only [Act.put, List.setIfInBounds_toArray, List.set_cons_zero, List.set_cons_succ]
  refine lv rfl (some 56) rfl (v := ?_) ?_ ?_
  rotate_left
  · go_simp; try with_reducible rfl
  try simp only [Act.put, List.setIfInBounds_toArray, List.set_cons_zero, List.set_cons_succ]
  refine wpList_nil ?_
  go_upto_region 11 with fail
  refine wp_region_lit ?_
  refine ly M4 (some 58) rfl (yi_row 0 26 (.tmp 3) rfl rfl rfl rfl Try.underlying26 rfl (by kernel_rfl)) ?_
  try simp only [Act.put, List.setIfInBounds_toArray, List.set_cons_zero, List.set_cons_succ]
  refine ly M4 (some 59) rfl (yi_row 2 23 (.tmp 5) rfl rfl rfl rfl Try.underlying23 rfl (by kernel_rfl)) ?_
  try simp only [Act.put, List.setIfInBounds_toArray, List.set_cons_zero, List.set_cons_succ]
  refine l_call rfl (some 60) rfl (x1 _) (by kernel_rfl) (fun s5 hb5 => ?_)
  have M5 := M4.call hb5
  clear hb5 M4
  try simp only [Act.put, List.setIfInBounds_toArray, List.set_cons_zero, List.set_cons_succ]
  refine lv rfl (some 57) rfl (v := ?_) ?_ ?_
  rotate_left
  · go_simp; try with_reducible rfl
  try simp only [Act.put, List.setIfInBounds_toArray, List.set_cons_zero, List.set_cons_succ]
  refine lv rfl (some 61) rfl (v := ?_) ?_ ?_
  rotate_left
  · go_simp; try with_reducible rfl
  try simp only [Act.put, List.setIfInBounds_toArray, List.set_cons_zero, List.set_cons_succ]
  refine lv rfl (some 62) rfl (v := ?_) ?_ ?_
  rotate_left
  · go_simp; try with_reducible rfl
  try simp only [Act.put, List.setIfInBounds_toArray, List.set_cons_zero, List.set_cons_succ]
  refine l_alloc rfl (some 9) rfl #[.int .u8 0, .int .u8 0, .int .u8 0, .int .u8 0] 31 (by kernel_rfl) ?_
  have M6 := M5.new rfl 31 #[.int .u8 0, .int .u8 0, .int .u8 0, .int .u8 0]
  clear M5
  try simp only [List.cons_append, List.nil_append, List.set_cons_zero, List.set_cons_succ] at M6
  try simp only [Act.put, List.setIfInBounds_toArray, List.set_cons_zero, List.set_cons_succ]
  refine l_store M6 3 rfl 31 (.tmp 9) _ rfl rfl rfl rfl _ rfl (by kernel_rfl) (by rfl) (by kernel_rfl) _ rfl (fun s7 M7 => ?_)
  clear M6
  try simp only [List.cons_append, List.nil_append, List.set_cons_zero, List.set_cons_succ] at M7
  try simp only [Act.put, List.setIfInBounds_toArray, List.set_cons_zero, List.set_cons_succ]
  refine lv rfl (some 10) rfl (v := ?_) ?_ ?_
  rotate_left
  · go_simp; try with_reducible rfl
  try simp only [Act.put, List.setIfInBounds_toArray, List.set_cons_zero, List.set_cons_succ]
  refine wpList_nil ?_
  go_upto_region 12 with fail
  refine wp_region_lit ?_
  refine ly M7 (some 64) rfl (yi_row 1 26 (.tmp 4) rfl rfl rfl rfl Try.underlying26 rfl (by kernel_rfl)) ?_
  try simp only [Act.put, List.setIfInBounds_toArray, List.set_cons_zero, List.set_cons_succ]
  refine ly M7 (some 65) rfl (yi_row 2 23 (.tmp 5) rfl rfl rfl rfl Try.underlying23 rfl (by kernel_rfl)) ?_
  try simp only [Act.put, List.setIfInBounds_toArray, List.set_cons_zero, List.set_cons_succ]
  refine l_call rfl (some 66) rfl (x2 _) (by kernel_rfl) (fun s8 hb8 => ?_)
  have M8 := M7.call hb8
  clear hb8 M7
  try simp only [Act.put, List.setIfInBounds_toArray, List.set_cons_zero, List.set_cons_succ]
  refine lv rfl (some 63) rfl (v := ?_) ?_ ?_
  rotate_left
  · go_simp; try with_reducible rfl
  try simp only [Act.put, List.setIfInBounds_toArray, List.set_cons_zero, List.set_cons_succ]
  refine lv rfl (some 67) rfl (v := ?_) ?_ ?_
  rotate_left
  · go_simp; try with_reducible rfl
  try simp only [Act.put, List.setIfInBounds_toArray, List.set_cons_zero, List.set_cons_succ]
  refine lv rfl (some 68) rfl (v := ?_) ?_ ?_
  rotate_left
  · go_simp; try with_reducible rfl
  try simp only [Act.put, List.setIfInBounds_toArray, List.set_cons_zero, List.set_cons_succ]
  refine l_alloc rfl (some 11) rfl #[.int .u8 0, .int .u8 0, .int .u8 0, .int .u8 0] 31 (by kernel_rfl) ?_
  have M9 := M8.new rfl 31 #[.int .u8 0, .int .u8 0, .int .u8 0, .int .u8 0]
  clear M8
  try simp only [List.cons_append, List.nil_append, List.set_cons_zero, List.set_cons_succ] at M9
  try simp only [Act.put, List.setIfInBounds_toArray, List.set_cons_zero, List.set_cons_succ]
  refine l_store M9 4 rfl 31 (.tmp 11) _ rfl rfl rfl rfl _ rfl (by kernel_rfl) (by rfl) (by kernel_rfl) _ rfl (fun s10 M10 => ?_)
  clear M9
  try simp only [List.cons_append, List.nil_append, List.set_cons_zero, List.set_cons_succ] at M10
  try simp only [Act.put, List.setIfInBounds_toArray, List.set_cons_zero, List.set_cons_succ]
  refine lv rfl (some 12) rfl (v := ?_) ?_ ?_
  rotate_left
  · go_simp; try with_reducible rfl
  try simp only [Act.put, List.setIfInBounds_toArray, List.set_cons_zero, List.set_cons_succ]
  refine wpList_nil ?_
  go_upto_region 13 with fail
  refine wp_region_lit ?_
  refine lv rfl (some 69) rfl (v := ?_) ?_ ?_
  rotate_left
  · go_simp; try with_reducible rfl
  try simp only [Act.put, List.setIfInBounds_toArray, List.set_cons_zero, List.set_cons_succ]
  refine lv rfl (some 70) rfl (v := ?_) ?_ ?_
  rotate_left
  · go_simp; try with_reducible rfl
  try simp only [Act.put, List.setIfInBounds_toArray, List.set_cons_zero, List.set_cons_succ]
  refine lv rfl (some 71) rfl (v := ?_) ?_ ?_
  rotate_left
  · go_simp; try with_reducible rfl
  try simp only [Act.put, List.setIfInBounds_toArray, List.set_cons_zero, List.set_cons_succ]
  refine lv rfl (some 72) rfl (v := ?_) ?_ ?_
  rotate_left
  · go_simp; try with_reducible rfl
  try simp only [Act.put, List.setIfInBounds_toArray, List.set_cons_zero, List.set_cons_succ]
  refine lv rfl (some 73) rfl (v := ?_) ?_ ?_
  rotate_left
  · go_simp; try with_reducible rfl
  try simp only [Act.put, List.setIfInBounds_toArray, List.set_cons_zero, List.set_cons_succ]
  refine lv rfl (some 74) rfl (v := ?_) ?_ ?_
  rotate_left
  · go_simp; try with_reducible rfl
  try simp only [Act.put, List.setIfInBounds_toArray, List.set_cons_zero, List.set_cons_succ]
  refine lv rfl (some 75) rfl (v := ?_) ?_ ?_
  rotate_left
  · go_simp; try with_reducible rfl
  try simp only [Act.put, List.setIfInBounds_toArray, List.set_cons_zero, List.set_cons_succ]
  refine lv rfl (some 76) rfl (v := ?_) ?_ ?_
  rotate_left
  · go_simp; try with_reducible rfl
  try simp only [Act.put, List.setIfInBounds_toArray, List.set_cons_zero, List.set_cons_succ]
  refine lu rfl (some 77) rfl ?_
  try simp only [Act.put, List.setIfInBounds_toArray, List.set_cons_zero, List.set_cons_succ]
  refine lu rfl (some 78) rfl ?_
  try simp only [Act.put, List.setIfInBounds_toArray, List.set_cons_zero, List.set_cons_succ]
  refine lv rfl (some 79) rfl (v := ?_) ?_ ?_
  rotate_left
  · go_simp; try with_reducible rfl
  try simp only [Act.put, List.setIfInBounds_toArray, List.set_cons_zero, List.set_cons_succ]
  refine lv rfl (some 80) rfl (v := ?_) ?_ ?_
  rotate_left
  · go_simp; try with_reducible rfl
  try simp only [Act.put, List.setIfInBounds_toArray, List.set_cons_zero, List.set_cons_succ]
  refine lv rfl (some 81) rfl (v := ?_) ?_ ?_
  rotate_left
  · go_simp; try with_reducible rfl
  try simp only [Act.put, List.setIfInBounds_toArray, List.set_cons_zero, List.set_cons_succ]
  refine ly M10 (some 82) rfl (yi_row 0 26 (.tmp 3) rfl rfl rfl rfl Try.underlying26 rfl (by kernel_rfl)) ?_
  try simp only [Act.put, List.setIfInBounds_toArray, List.set_cons_zero, List.set_cons_succ]
  refine l_call rfl (some 83) rfl (r1 _) (by kernel_rfl) (fun s11 hb11 => ?_)
  have M11 := M10.call hb11
  clear hb11 M10
  try simp only [Act.put, List.setIfInBounds_toArray, List.set_cons_zero, List.set_cons_succ]
  refine lv rfl (some 84) rfl (v := ?_) ?_ ?_
  rotate_left
  · go_simp; try with_reducible rfl
  try simp only [Act.put, List.setIfInBounds_toArray, List.set_cons_zero, List.set_cons_succ]
  refine lv rfl (some 85) rfl (v := ?_) ?_ ?_
  rotate_left
  · go_simp; try with_reducible rfl
  try simp only [Act.put, List.setIfInBounds_toArray, List.set_cons_zero, List.set_cons_succ]
  refine ly M11 (some 86) rfl (yi_row 0 26 (.tmp 3) rfl rfl rfl rfl Try.underlying26 rfl (by kernel_rfl)) ?_
  try simp only [Act.put, List.setIfInBounds_toArray, List.set_cons_zero, List.set_cons_succ]
  refine lv rfl (some 87) rfl (v := ?_) ?_ ?_
  rotate_left
  · go_simp; try with_reducible rfl
  try simp only [Act.put, List.setIfInBounds_toArray, List.set_cons_zero, List.set_cons_succ]
  refine ly M11 (some 88) rfl (yi_part 0 23 (.tmp 87) rfl rfl rfl 0 rfl (a16 P) Try.underlying23 rfl (by kernel_rfl) (by kernel_rfl)) ?_
  try simp only [Act.put, List.setIfInBounds_toArray, List.set_cons_zero, List.set_cons_succ]
  refine l_call rfl (some 89) rfl (i1 _) (by kernel_rfl) (fun s12 hb12 => ?_)
  have M12 := M11.call hb12
  clear hb12 M11
  try simp only [Act.put, List.setIfInBounds_toArray, List.set_cons_zero, List.set_cons_succ]
  refine lv rfl (some 90) rfl (v := ?_) ?_ ?_
  rotate_left
  · go_simp; try with_reducible rfl
  try simp only [Act.put, List.setIfInBounds_toArray, List.set_cons_zero, List.set_cons_succ]
  refine lv rfl (some 91) rfl (v := ?_) ?_ ?_
  rotate_left
  · go_simp; try with_reducible rfl
  try simp only [Act.put, List.setIfInBounds_toArray, List.set_cons_zero, List.set_cons_succ]
  refine lv rfl (some 6) rfl (v := ?_) ?_ ?_
  rotate_left
  · go_simp; try with_reducible rfl
  try simp only [Act.put, List.setIfInBounds_toArray, List.set_cons_zero, List.set_cons_succ]
  refine wpList_nil ?_
  go_wp2_with fail
  go_ret
  exact ⟨rfl, M12.below⟩
set_option maxRecDepth 100000 in
set_option maxHeartbeats 4000000 in
theorem apart_001n (P Q X : Nat → Int) (n m : Int) (w : World) (bp : Bytes 16 P) (bq : Bytes 16 Q) (bx : Bytes 16 X) (hl : ¬ m < n) (ha : ¬ InsideP P X n) (hb : InsideP Q X m) (hr : ¬ RightP P n) : Calls Try.prog 8 #[net P n, net Q m, .agg (a16 X)] w fun e w' => e = .returned (.bool true) ∧ Below w.heap.size w w' := by
  have c1 := fun w => inside_n bp bx ha w
  have c2 := fun w => inside_t bq bx hb w
  obtain ⟨C, r, hC, x1⟩ := extract_ex n bp bx
  obtain ⟨D, s, hD, x2⟩ := extract_ex m bq bx
  obtain rfl : r = false := by cases r with | false => rfl | true => exact absurd (hC rfl) ha
  have r1 := fun w => right_f P n w hr
  have ht : n ≤ m := by omega
  clear bp bq bx ha hb hl hC hD hr
  go_enter Try.func8, Try.ntmps8
  go_upto_region 1 with fail
  have M0 := Mem.three w 26 26 23 #[.int .u8 (P 0), .int .u8 (P 1), .int .u8 (P 2), .int .u8 (P 3), .int .u8 (P 4), .int .u8 (P 5), .int .u8 (P 6), .int .u8 (P 7), .int .u8 (P 8), .int .u8 (P 9), .int .u8 (P 10), .int .u8 (P 11), .int .u8 (P 12), .int .u8 (P 13), .int .u8 (P 14), .int .u8 (P 15), .int .i64 n] #[.int .u8 (Q 0), .int .u8 (Q 1), .int .u8 (Q 2), .int .u8 (Q 3), .int .u8 (Q 4), .int .u8 (Q 5), .int .u8 (Q 6), .int .u8 (Q 7), .int .u8 (Q 8), .int .u8 (Q 9), .int .u8 (Q 10), .int .u8 (Q 11), .int .u8 (Q 12), .int .u8 (Q 13), .int .u8 (Q 14), .int .u8 (Q 15), .int .i64 m] (a16 X)
  refine wp_region_lit ?_
  refine l_call rfl (some 13) rfl (awake_any _) (by kernel_rfl) (fun s1 hb1 => ?_)
  have M1 := M0.call hb1
  clear hb1 M0
  try simp only [Act.put, List.setIfInBounds_toArray, List.set_cons_zero, List.set_cons_succ]
  refine lv rfl (some 14) rfl (v := ?_) ?_ ?_
  rotate_left
  · go_simp; try with_reducible rfl
  try simp only [Act.put, List.setIfInBounds_toArray, List.set_cons_zero, List.set_cons_succ]
  refine wpList_nil ?_
  go_upto_region 3 with fail
  refine wp_region_held_drew (S := fun w' => Mem w w' _) (by kernel_rfl) M1.drew (fun _ => ?_)
  have M2 := M1.drew
  refine tk (i := 0) rfl (some 15) rfl (by kernel_rfl) (by kernel_rfl) (by kernel_rfl) (fun _ _ _ h => h) (yi_row 0 26 (.tmp 3) rfl rfl rfl rfl Try.underlying26 rfl (by kernel_rfl)) M2 ?_
  try simp only [Act.put, List.setIfInBounds_toArray, List.set_cons_zero, List.set_cons_succ]
  refine tk (i := 1) rfl (some 16) rfl (by kernel_rfl) (by kernel_rfl) (by kernel_rfl) (fun _ _ _ h => h) (yi_row 2 23 (.tmp 5) rfl rfl rfl rfl Try.underlying23 rfl (by kernel_rfl)) M2 ?_
  try simp only [Act.put, List.setIfInBounds_toArray, List.set_cons_zero, List.set_cons_succ]
  refine tk (i := 3) rfl (some 18) rfl (by kernel_rfl) (by kernel_rfl) (by kernel_rfl) (fun _ _ _ h => h) (yi_row 1 26 (.tmp 4) rfl rfl rfl rfl Try.underlying26 rfl (by kernel_rfl)) M2 ?_
  try simp only [Act.put, List.setIfInBounds_toArray, List.set_cons_zero, List.set_cons_succ]
  refine tk (i := 4) rfl (some 19) rfl (by kernel_rfl) (by kernel_rfl) (by kernel_rfl) (fun _ _ _ h => h) (yi_row 2 23 (.tmp 5) rfl rfl rfl rfl Try.underlying23 rfl (by kernel_rfl)) M2 ?_
  try simp only [Act.put, List.setIfInBounds_toArray, List.set_cons_zero, List.set_cons_succ]
  refine wpAnyH_ready (rs := [2]) (by kernel_rfl) (by simp) ?_
  refine br_call rfl rfl (some 17) rfl (c1 _) (by kernel_rfl) (fun w' hb => M2.call hb) (fun s3 hb3 => ?_) AllReadyH.nil
  have M3 := M2.call hb3
  clear hb3 M2
  try simp only [Act.put, List.setIfInBounds_toArray, List.set_cons_zero, List.set_cons_succ]
  refine wpAnyH_ready (rs := [5]) (by kernel_rfl) (by simp) ?_
  refine br_call rfl rfl (some 20) rfl (c2 _) (by kernel_rfl) (fun w' hb => M3.call hb) (fun s4 hb4 => ?_) AllReadyH.nil
  have M4 := M3.call hb4
  clear hb4 M3
  try simp only [Act.put, List.setIfInBounds_toArray, List.set_cons_zero, List.set_cons_succ]
  refine tk (i := 6) (v := ?_) rfl (some 7) rfl (by kernel_rfl) (by kernel_rfl) (by kernel_rfl) (fun _ _ _ h => h) (Or.inl ⟨by rfl, ?_⟩) M4 ?_
  rotate_left
  · intro w hS; go_simp; try with_reducible rfl
  try simp only [Act.put, List.setIfInBounds_toArray, List.set_cons_zero, List.set_cons_succ]
  refine tk (i := 7) (v := ?_) rfl (some 8) rfl (by kernel_rfl) (by kernel_rfl) (by kernel_rfl) (fun _ _ _ h => h) (Or.inl ⟨by rfl, ?_⟩) M4 ?_
  rotate_left
  · intro w hS; go_simp; try with_reducible rfl
  try simp only [Act.put, List.setIfInBounds_toArray, List.set_cons_zero, List.set_cons_succ]
  refine wpAnyH_done (by kernel_rfl) ?_ _
  go_upto_region 4 with fail
  refine wp_region_lit ?_
  refine lv rfl (some 21) rfl (v := ?_) ?_ ?_
  rotate_left
  · go_simp; try with_reducible rfl
  try simp only [Act.put, List.setIfInBounds_toArray, List.set_cons_zero, List.set_cons_succ]
  refine ly M4 (some 22) rfl (yi_cell 0 3 (.tmp 21) rfl rfl rfl _ rfl _ Try.underlying3 rfl) ?_
  try simp only [Act.put, List.setIfInBounds_toArray, List.set_cons_zero, List.set_cons_succ]
  refine lv rfl (some 23) rfl (v := ?_) ?_ ?_
  rotate_left
  · go_simp; try with_reducible rfl
  try simp only [Act.put, List.setIfInBounds_toArray, List.set_cons_zero, List.set_cons_succ]
  refine ly M4 (some 24) rfl (yi_cell 1 3 (.tmp 23) rfl rfl rfl _ rfl _ Try.underlying3 rfl) ?_
  try simp only [Act.put, List.setIfInBounds_toArray, List.set_cons_zero, List.set_cons_succ]
  refine lv rfl (some 25) rfl (v := ?_) ?_ ?_
  rotate_left
  · go_simp; try with_reducible rfl
  try simp only [Act.put, List.setIfInBounds_toArray, List.set_cons_zero, List.set_cons_succ]
  refine wpList_nil ?_
  go_upto_region 7 with fail
  refine wp_region_lit ?_
  refine lv rfl (some 30) rfl (v := ?_) ?_ ?_
  rotate_left
  · go_simp; try with_reducible rfl
  try simp only [Act.put, List.setIfInBounds_toArray, List.set_cons_zero, List.set_cons_succ]
  refine lv rfl (some 31) rfl (v := ?_) ?_ ?_
  rotate_left
  · go_simp; try with_reducible rfl
  try simp only [Act.put, List.setIfInBounds_toArray, List.set_cons_zero, List.set_cons_succ]
  refine lu rfl (some 32) rfl ?_
  try simp only [Act.put, List.setIfInBounds_toArray, List.set_cons_zero, List.set_cons_succ]
  refine lv rfl (some 33) rfl (v := ?_) ?_ ?_
  rotate_left
  · go_simp; try with_reducible rfl
  try simp only [Act.put, List.setIfInBounds_toArray, List.set_cons_zero, List.set_cons_succ]
  refine lv rfl (some 34) rfl (v := ?_) ?_ ?_
  rotate_left
  · go_simp; try with_reducible rfl
  try simp only [Act.put, List.setIfInBounds_toArray, List.set_cons_zero, List.set_cons_succ]
  refine lu rfl (some 35) rfl ?_
  try simp only [Act.put, List.setIfInBounds_toArray, List.set_cons_zero, List.set_cons_succ]
  refine lu rfl (some 36) rfl ?_
  try simp only [Act.put, List.setIfInBounds_toArray, List.set_cons_zero, List.set_cons_succ]
  refine lu rfl (some 37) rfl ?_
  try simp only [Act.put, List.setIfInBounds_toArray, List.set_cons_zero, List.set_cons_succ]
  refine lu rfl (some 38) rfl ?_
  try simp only [Act.put, List.setIfInBounds_toArray, List.set_cons_zero, List.set_cons_succ]
  refine lu rfl (some 39) rfl ?_
  try simp only [Act.put, List.setIfInBounds_toArray, List.set_cons_zero, List.set_cons_succ]
  refine lv rfl (some 40) rfl (v := ?_) ?_ ?_
  rotate_left
  · go_simp; try with_reducible rfl
  try simp only [Act.put, List.setIfInBounds_toArray, List.set_cons_zero, List.set_cons_succ]
  refine wpList_nil ?_
  go_upto_region 9 with fail
  refine wp_region_lit ?_
  refine lv rfl (some 41) rfl (v := ?_) ?_ ?_
  rotate_left
  · go_simp; try with_reducible rfl
  try simp only [Act.put, List.setIfInBounds_toArray, List.set_cons_zero, List.set_cons_succ]
  refine lv rfl (some 42) rfl (v := ?_) ?_ ?_
  rotate_left
  · go_simp; try with_reducible rfl
  try simp only [Act.put, List.setIfInBounds_toArray, List.set_cons_zero, List.set_cons_succ]
  refine lu rfl (some 43) rfl ?_
  try simp only [Act.put, List.setIfInBounds_toArray, List.set_cons_zero, List.set_cons_succ]
  refine lv rfl (some 44) rfl (v := ?_) ?_ ?_
  rotate_left
  · go_simp; try with_reducible rfl
  try simp only [Act.put, List.setIfInBounds_toArray, List.set_cons_zero, List.set_cons_succ]
  refine lv rfl (some 45) rfl (v := ?_) ?_ ?_
  rotate_left
  · go_simp; try with_reducible rfl
  try simp only [Act.put, List.setIfInBounds_toArray, List.set_cons_zero, List.set_cons_succ]
  refine lu rfl (some 46) rfl ?_
  try simp only [Act.put, List.setIfInBounds_toArray, List.set_cons_zero, List.set_cons_succ]
  refine lu rfl (some 47) rfl ?_
  try simp only [Act.put, List.setIfInBounds_toArray, List.set_cons_zero, List.set_cons_succ]
  refine lu rfl (some 48) rfl ?_
  try simp only [Act.put, List.setIfInBounds_toArray, List.set_cons_zero, List.set_cons_succ]
  refine lu rfl (some 49) rfl ?_
  try simp only [Act.put, List.setIfInBounds_toArray, List.set_cons_zero, List.set_cons_succ]
  refine lu rfl (some 50) rfl ?_
  try simp only [Act.put, List.setIfInBounds_toArray, List.set_cons_zero, List.set_cons_succ]
  refine lv rfl (some 51) rfl (v := ?_) ?_ ?_
  rotate_left
  · go_simp; try with_reducible rfl
  try simp only [Act.put, List.setIfInBounds_toArray, List.set_cons_zero, List.set_cons_succ]
  refine lv rfl (some 52) rfl (v := ?_) ?_ ?_
  rotate_left
  · go_simp; try with_reducible rfl
  try simp only [Act.put, List.setIfInBounds_toArray, List.set_cons_zero, List.set_cons_succ]
  refine lu rfl (some 53) rfl ?_
  try simp only [Act.put, List.setIfInBounds_toArray, List.set_cons_zero, List.set_cons_succ]
  refine lu rfl (some 54) rfl ?_
  try simp only [Act.put, List.setIfInBounds_toArray, List.set_cons_zero, List.set_cons_succ]
  refine lu rfl (some 55) rfl ?_
  try simp only [Act.put, List.setIfInBounds_toArray, List.set_cons_zero, List.set_cons_succ]
  refine lv rfl (some 56) rfl (v := ?_) ?_ ?_
  rotate_left
  · go_simp; try with_reducible rfl
  try simp only [Act.put, List.setIfInBounds_toArray, List.set_cons_zero, List.set_cons_succ]
  refine wpList_nil ?_
  go_upto_region 11 with fail
  refine wp_region_lit ?_
  refine ly M4 (some 58) rfl (yi_row 0 26 (.tmp 3) rfl rfl rfl rfl Try.underlying26 rfl (by kernel_rfl)) ?_
  try simp only [Act.put, List.setIfInBounds_toArray, List.set_cons_zero, List.set_cons_succ]
  refine ly M4 (some 59) rfl (yi_row 2 23 (.tmp 5) rfl rfl rfl rfl Try.underlying23 rfl (by kernel_rfl)) ?_
  try simp only [Act.put, List.setIfInBounds_toArray, List.set_cons_zero, List.set_cons_succ]
  refine l_call rfl (some 60) rfl (x1 _) (by kernel_rfl) (fun s5 hb5 => ?_)
  have M5 := M4.call hb5
  clear hb5 M4
  try simp only [Act.put, List.setIfInBounds_toArray, List.set_cons_zero, List.set_cons_succ]
  refine lv rfl (some 57) rfl (v := ?_) ?_ ?_
  rotate_left
  · go_simp; try with_reducible rfl
  try simp only [Act.put, List.setIfInBounds_toArray, List.set_cons_zero, List.set_cons_succ]
  refine lv rfl (some 61) rfl (v := ?_) ?_ ?_
  rotate_left
  · go_simp; try with_reducible rfl
  try simp only [Act.put, List.setIfInBounds_toArray, List.set_cons_zero, List.set_cons_succ]
  refine lv rfl (some 62) rfl (v := ?_) ?_ ?_
  rotate_left
  · go_simp; try with_reducible rfl
  try simp only [Act.put, List.setIfInBounds_toArray, List.set_cons_zero, List.set_cons_succ]
  refine l_alloc rfl (some 9) rfl #[.int .u8 0, .int .u8 0, .int .u8 0, .int .u8 0] 31 (by kernel_rfl) ?_
  have M6 := M5.new rfl 31 #[.int .u8 0, .int .u8 0, .int .u8 0, .int .u8 0]
  clear M5
  try simp only [List.cons_append, List.nil_append, List.set_cons_zero, List.set_cons_succ] at M6
  try simp only [Act.put, List.setIfInBounds_toArray, List.set_cons_zero, List.set_cons_succ]
  refine l_store M6 3 rfl 31 (.tmp 9) _ rfl rfl rfl rfl _ rfl (by kernel_rfl) (by rfl) (by kernel_rfl) _ rfl (fun s7 M7 => ?_)
  clear M6
  try simp only [List.cons_append, List.nil_append, List.set_cons_zero, List.set_cons_succ] at M7
  try simp only [Act.put, List.setIfInBounds_toArray, List.set_cons_zero, List.set_cons_succ]
  refine lv rfl (some 10) rfl (v := ?_) ?_ ?_
  rotate_left
  · go_simp; try with_reducible rfl
  try simp only [Act.put, List.setIfInBounds_toArray, List.set_cons_zero, List.set_cons_succ]
  refine wpList_nil ?_
  go_upto_region 12 with fail
  refine wp_region_lit ?_
  refine ly M7 (some 64) rfl (yi_row 1 26 (.tmp 4) rfl rfl rfl rfl Try.underlying26 rfl (by kernel_rfl)) ?_
  try simp only [Act.put, List.setIfInBounds_toArray, List.set_cons_zero, List.set_cons_succ]
  refine ly M7 (some 65) rfl (yi_row 2 23 (.tmp 5) rfl rfl rfl rfl Try.underlying23 rfl (by kernel_rfl)) ?_
  try simp only [Act.put, List.setIfInBounds_toArray, List.set_cons_zero, List.set_cons_succ]
  refine l_call rfl (some 66) rfl (x2 _) (by kernel_rfl) (fun s8 hb8 => ?_)
  have M8 := M7.call hb8
  clear hb8 M7
  try simp only [Act.put, List.setIfInBounds_toArray, List.set_cons_zero, List.set_cons_succ]
  refine lv rfl (some 63) rfl (v := ?_) ?_ ?_
  rotate_left
  · go_simp; try with_reducible rfl
  try simp only [Act.put, List.setIfInBounds_toArray, List.set_cons_zero, List.set_cons_succ]
  refine lv rfl (some 67) rfl (v := ?_) ?_ ?_
  rotate_left
  · go_simp; try with_reducible rfl
  try simp only [Act.put, List.setIfInBounds_toArray, List.set_cons_zero, List.set_cons_succ]
  refine lv rfl (some 68) rfl (v := ?_) ?_ ?_
  rotate_left
  · go_simp; try with_reducible rfl
  try simp only [Act.put, List.setIfInBounds_toArray, List.set_cons_zero, List.set_cons_succ]
  refine l_alloc rfl (some 11) rfl #[.int .u8 0, .int .u8 0, .int .u8 0, .int .u8 0] 31 (by kernel_rfl) ?_
  have M9 := M8.new rfl 31 #[.int .u8 0, .int .u8 0, .int .u8 0, .int .u8 0]
  clear M8
  try simp only [List.cons_append, List.nil_append, List.set_cons_zero, List.set_cons_succ] at M9
  try simp only [Act.put, List.setIfInBounds_toArray, List.set_cons_zero, List.set_cons_succ]
  refine l_store M9 4 rfl 31 (.tmp 11) _ rfl rfl rfl rfl _ rfl (by kernel_rfl) (by rfl) (by kernel_rfl) _ rfl (fun s10 M10 => ?_)
  clear M9
  try simp only [List.cons_append, List.nil_append, List.set_cons_zero, List.set_cons_succ] at M10
  try simp only [Act.put, List.setIfInBounds_toArray, List.set_cons_zero, List.set_cons_succ]
  refine lv rfl (some 12) rfl (v := ?_) ?_ ?_
  rotate_left
  · go_simp; try with_reducible rfl
  try simp only [Act.put, List.setIfInBounds_toArray, List.set_cons_zero, List.set_cons_succ]
  refine wpList_nil ?_
  go_upto_region 13 with fail
  refine wp_region_lit ?_
  refine lv rfl (some 69) rfl (v := ?_) ?_ ?_
  rotate_left
  · go_simp; try with_reducible rfl
  try simp only [Act.put, List.setIfInBounds_toArray, List.set_cons_zero, List.set_cons_succ]
  refine lv rfl (some 70) rfl (v := ?_) ?_ ?_
  rotate_left
  · go_simp; try with_reducible rfl
  try simp only [Act.put, List.setIfInBounds_toArray, List.set_cons_zero, List.set_cons_succ]
  refine lv rfl (some 71) rfl (v := ?_) ?_ ?_
  rotate_left
  · go_simp; try with_reducible rfl
  try simp only [Act.put, List.setIfInBounds_toArray, List.set_cons_zero, List.set_cons_succ]
  refine lv rfl (some 72) rfl (v := ?_) ?_ ?_
  rotate_left
  · go_simp; try with_reducible rfl
  try simp only [Act.put, List.setIfInBounds_toArray, List.set_cons_zero, List.set_cons_succ]
  refine lv rfl (some 73) rfl (v := ?_) ?_ ?_
  rotate_left
  · go_simp; try with_reducible rfl
  try simp only [Act.put, List.setIfInBounds_toArray, List.set_cons_zero, List.set_cons_succ]
  refine lv rfl (some 74) rfl (v := ?_) ?_ ?_
  rotate_left
  · go_simp; try with_reducible rfl
  try simp only [Act.put, List.setIfInBounds_toArray, List.set_cons_zero, List.set_cons_succ]
  refine lv rfl (some 75) rfl (v := ?_) ?_ ?_
  rotate_left
  · go_simp; try with_reducible rfl
  try simp only [Act.put, List.setIfInBounds_toArray, List.set_cons_zero, List.set_cons_succ]
  refine lv rfl (some 76) rfl (v := ?_) ?_ ?_
  rotate_left
  · go_simp; try with_reducible rfl
  try simp only [Act.put, List.setIfInBounds_toArray, List.set_cons_zero, List.set_cons_succ]
  refine lu rfl (some 77) rfl ?_
  try simp only [Act.put, List.setIfInBounds_toArray, List.set_cons_zero, List.set_cons_succ]
  refine lu rfl (some 78) rfl ?_
  try simp only [Act.put, List.setIfInBounds_toArray, List.set_cons_zero, List.set_cons_succ]
  refine lv rfl (some 79) rfl (v := ?_) ?_ ?_
  rotate_left
  · go_simp; try with_reducible rfl
  try simp only [Act.put, List.setIfInBounds_toArray, List.set_cons_zero, List.set_cons_succ]
  refine lv rfl (some 80) rfl (v := ?_) ?_ ?_
  rotate_left
  · go_simp; try with_reducible rfl
  try simp only [Act.put, List.setIfInBounds_toArray, List.set_cons_zero, List.set_cons_succ]
  refine lv rfl (some 81) rfl (v := ?_) ?_ ?_
  rotate_left
  · go_simp; try with_reducible rfl
  try simp only [Act.put, List.setIfInBounds_toArray, List.set_cons_zero, List.set_cons_succ]
  refine ly M10 (some 82) rfl (yi_row 0 26 (.tmp 3) rfl rfl rfl rfl Try.underlying26 rfl (by kernel_rfl)) ?_
  try simp only [Act.put, List.setIfInBounds_toArray, List.set_cons_zero, List.set_cons_succ]
  refine l_call rfl (some 83) rfl (r1 _) (by kernel_rfl) (fun s11 hb11 => ?_)
  have M11 := M10.call hb11
  clear hb11 M10
  try simp only [Act.put, List.setIfInBounds_toArray, List.set_cons_zero, List.set_cons_succ]
  refine lv rfl (some 84) rfl (v := ?_) ?_ ?_
  rotate_left
  · go_simp; try with_reducible rfl
  try simp only [Act.put, List.setIfInBounds_toArray, List.set_cons_zero, List.set_cons_succ]
  refine lv rfl (some 85) rfl (v := ?_) ?_ ?_
  rotate_left
  · go_simp; try with_reducible rfl
  try simp only [Act.put, List.setIfInBounds_toArray, List.set_cons_zero, List.set_cons_succ]
  refine lu rfl (some 86) rfl ?_
  try simp only [Act.put, List.setIfInBounds_toArray, List.set_cons_zero, List.set_cons_succ]
  refine lu rfl (some 87) rfl ?_
  try simp only [Act.put, List.setIfInBounds_toArray, List.set_cons_zero, List.set_cons_succ]
  refine lu rfl (some 88) rfl ?_
  try simp only [Act.put, List.setIfInBounds_toArray, List.set_cons_zero, List.set_cons_succ]
  refine lu rfl (some 89) rfl ?_
  try simp only [Act.put, List.setIfInBounds_toArray, List.set_cons_zero, List.set_cons_succ]
  refine lv rfl (some 90) rfl (v := ?_) ?_ ?_
  rotate_left
  · go_simp; try with_reducible rfl
  try simp only [Act.put, List.setIfInBounds_toArray, List.set_cons_zero, List.set_cons_succ]
  refine lv rfl (some 91) rfl (v := ?_) ?_ ?_
  rotate_left
  · go_simp; try with_reducible rfl
  try simp only [Act.put, List.setIfInBounds_toArray, List.set_cons_zero, List.set_cons_succ]
  refine lv rfl (some 6) rfl (v := ?_) ?_ ?_
  rotate_left
  · go_simp; try with_reducible rfl
  try simp only [Act.put, List.setIfInBounds_toArray, List.set_cons_zero, List.set_cons_succ]
  refine wpList_nil ?_
  go_wp2_with fail
  go_ret
  exact ⟨rfl, M11.below⟩
set_option maxRecDepth 100000 in
set_option maxHeartbeats 4000000 in
theorem apart_000r (P Q X : Nat → Int) (n m : Int) (w : World) (bp : Bytes 16 P) (bq : Bytes 16 Q) (bx : Bytes 16 X) (hl : ¬ m < n) (ha : ¬ InsideP P X n) (hb : ¬ InsideP Q X m) (hr : RightP P n) : Calls Try.prog 8 #[net P n, net Q m, .agg (a16 X)] w fun e w' => e = .returned (.bool true) ∧ Below w.heap.size w w' := by
  have c1 := fun w => inside_n bp bx ha w
  have c2 := fun w => inside_n bq bx hb w
  obtain ⟨C, r, hC, x1⟩ := extract_ex n bp bx
  obtain ⟨D, s, hD, x2⟩ := extract_ex m bq bx
  obtain rfl : r = false := by cases r with | false => rfl | true => exact absurd (hC rfl) ha
  obtain rfl : s = false := by cases s with | false => rfl | true => exact absurd (hD rfl) hb
  have r1 := fun w => right_t P n w hr
  have i1 := fun w => inside_t bp bp (inside_self hr) w
  have ht : n ≤ m := by omega
  clear bp bq bx ha hb hl hC hD hr
  go_enter Try.func8, Try.ntmps8
  go_upto_region 1 with fail
  have M0 := Mem.three w 26 26 23 #[.int .u8 (P 0), .int .u8 (P 1), .int .u8 (P 2), .int .u8 (P 3), .int .u8 (P 4), .int .u8 (P 5), .int .u8 (P 6), .int .u8 (P 7), .int .u8 (P 8), .int .u8 (P 9), .int .u8 (P 10), .int .u8 (P 11), .int .u8 (P 12), .int .u8 (P 13), .int .u8 (P 14), .int .u8 (P 15), .int .i64 n] #[.int .u8 (Q 0), .int .u8 (Q 1), .int .u8 (Q 2), .int .u8 (Q 3), .int .u8 (Q 4), .int .u8 (Q 5), .int .u8 (Q 6), .int .u8 (Q 7), .int .u8 (Q 8), .int .u8 (Q 9), .int .u8 (Q 10), .int .u8 (Q 11), .int .u8 (Q 12), .int .u8 (Q 13), .int .u8 (Q 14), .int .u8 (Q 15), .int .i64 m] (a16 X)
  refine wp_region_lit ?_
  refine l_call rfl (some 13) rfl (awake_any _) (by kernel_rfl) (fun s1 hb1 => ?_)
  have M1 := M0.call hb1
  clear hb1 M0
  try simp only [Act.put, List.setIfInBounds_toArray, List.set_cons_zero, List.set_cons_succ]
  refine lv rfl (some 14) rfl (v := ?_) ?_ ?_
  rotate_left
  · go_simp; try with_reducible rfl
  try simp only [Act.put, List.setIfInBounds_toArray, List.set_cons_zero, List.set_cons_succ]
  refine wpList_nil ?_
  go_upto_region 3 with fail
  refine wp_region_held_drew (S := fun w' => Mem w w' _) (by kernel_rfl) M1.drew (fun _ => ?_)
  have M2 := M1.drew
  refine tk (i := 0) rfl (some 15) rfl (by kernel_rfl) (by kernel_rfl) (by kernel_rfl) (fun _ _ _ h => h) (yi_row 0 26 (.tmp 3) rfl rfl rfl rfl Try.underlying26 rfl (by kernel_rfl)) M2 ?_
  try simp only [Act.put, List.setIfInBounds_toArray, List.set_cons_zero, List.set_cons_succ]
  refine tk (i := 1) rfl (some 16) rfl (by kernel_rfl) (by kernel_rfl) (by kernel_rfl) (fun _ _ _ h => h) (yi_row 2 23 (.tmp 5) rfl rfl rfl rfl Try.underlying23 rfl (by kernel_rfl)) M2 ?_
  try simp only [Act.put, List.setIfInBounds_toArray, List.set_cons_zero, List.set_cons_succ]
  refine tk (i := 3) rfl (some 18) rfl (by kernel_rfl) (by kernel_rfl) (by kernel_rfl) (fun _ _ _ h => h) (yi_row 1 26 (.tmp 4) rfl rfl rfl rfl Try.underlying26 rfl (by kernel_rfl)) M2 ?_
  try simp only [Act.put, List.setIfInBounds_toArray, List.set_cons_zero, List.set_cons_succ]
  refine tk (i := 4) rfl (some 19) rfl (by kernel_rfl) (by kernel_rfl) (by kernel_rfl) (fun _ _ _ h => h) (yi_row 2 23 (.tmp 5) rfl rfl rfl rfl Try.underlying23 rfl (by kernel_rfl)) M2 ?_
  try simp only [Act.put, List.setIfInBounds_toArray, List.set_cons_zero, List.set_cons_succ]
  refine wpAnyH_ready (rs := [2]) (by kernel_rfl) (by simp) ?_
  refine br_call rfl rfl (some 17) rfl (c1 _) (by kernel_rfl) (fun w' hb => M2.call hb) (fun s3 hb3 => ?_) AllReadyH.nil
  have M3 := M2.call hb3
  clear hb3 M2
  try simp only [Act.put, List.setIfInBounds_toArray, List.set_cons_zero, List.set_cons_succ]
  refine wpAnyH_ready (rs := [5]) (by kernel_rfl) (by simp) ?_
  refine br_call rfl rfl (some 20) rfl (c2 _) (by kernel_rfl) (fun w' hb => M3.call hb) (fun s4 hb4 => ?_) AllReadyH.nil
  have M4 := M3.call hb4
  clear hb4 M3
  try simp only [Act.put, List.setIfInBounds_toArray, List.set_cons_zero, List.set_cons_succ]
  refine tk (i := 6) (v := ?_) rfl (some 7) rfl (by kernel_rfl) (by kernel_rfl) (by kernel_rfl) (fun _ _ _ h => h) (Or.inl ⟨by rfl, ?_⟩) M4 ?_
  rotate_left
  · intro w hS; go_simp; try with_reducible rfl
  try simp only [Act.put, List.setIfInBounds_toArray, List.set_cons_zero, List.set_cons_succ]
  refine tk (i := 7) (v := ?_) rfl (some 8) rfl (by kernel_rfl) (by kernel_rfl) (by kernel_rfl) (fun _ _ _ h => h) (Or.inl ⟨by rfl, ?_⟩) M4 ?_
  rotate_left
  · intro w hS; go_simp; try with_reducible rfl
  try simp only [Act.put, List.setIfInBounds_toArray, List.set_cons_zero, List.set_cons_succ]
  refine wpAnyH_done (by kernel_rfl) ?_ _
  go_upto_region 4 with fail
  refine wp_region_lit ?_
  refine lv rfl (some 21) rfl (v := ?_) ?_ ?_
  rotate_left
  · go_simp; try with_reducible rfl
  try simp only [Act.put, List.setIfInBounds_toArray, List.set_cons_zero, List.set_cons_succ]
  refine ly M4 (some 22) rfl (yi_cell 0 3 (.tmp 21) rfl rfl rfl _ rfl _ Try.underlying3 rfl) ?_
  try simp only [Act.put, List.setIfInBounds_toArray, List.set_cons_zero, List.set_cons_succ]
  refine lv rfl (some 23) rfl (v := ?_) ?_ ?_
  rotate_left
  · go_simp; try with_reducible rfl
  try simp only [Act.put, List.setIfInBounds_toArray, List.set_cons_zero, List.set_cons_succ]
  refine ly M4 (some 24) rfl (yi_cell 1 3 (.tmp 23) rfl rfl rfl _ rfl _ Try.underlying3 rfl) ?_
  try simp only [Act.put, List.setIfInBounds_toArray, List.set_cons_zero, List.set_cons_succ]
  refine lv rfl (some 25) rfl (v := ?_) ?_ ?_
  rotate_left
  · go_simp; try with_reducible rfl
  try simp only [Act.put, List.setIfInBounds_toArray, List.set_cons_zero, List.set_cons_succ]
  refine wpList_nil ?_
  go_upto_region 7 with fail
  refine wp_region_lit ?_
  refine lv rfl (some 30) rfl (v := ?_) ?_ ?_
  rotate_left
  · go_simp; try with_reducible rfl
  try simp only [Act.put, List.setIfInBounds_toArray, List.set_cons_zero, List.set_cons_succ]
  refine lv rfl (some 31) rfl (v := ?_) ?_ ?_
  rotate_left
  · go_simp; try with_reducible rfl
  try simp only [Act.put, List.setIfInBounds_toArray, List.set_cons_zero, List.set_cons_succ]
  refine lu rfl (some 32) rfl ?_
  try simp only [Act.put, List.setIfInBounds_toArray, List.set_cons_zero, List.set_cons_succ]
  refine lv rfl (some 33) rfl (v := ?_) ?_ ?_
  rotate_left
  · go_simp; try with_reducible rfl
  try simp only [Act.put, List.setIfInBounds_toArray, List.set_cons_zero, List.set_cons_succ]
  refine lv rfl (some 34) rfl (v := ?_) ?_ ?_
  rotate_left
  · go_simp; try with_reducible rfl
  try simp only [Act.put, List.setIfInBounds_toArray, List.set_cons_zero, List.set_cons_succ]
  refine lu rfl (some 35) rfl ?_
  try simp only [Act.put, List.setIfInBounds_toArray, List.set_cons_zero, List.set_cons_succ]
  refine lu rfl (some 36) rfl ?_
  try simp only [Act.put, List.setIfInBounds_toArray, List.set_cons_zero, List.set_cons_succ]
  refine lu rfl (some 37) rfl ?_
  try simp only [Act.put, List.setIfInBounds_toArray, List.set_cons_zero, List.set_cons_succ]
  refine lu rfl (some 38) rfl ?_
  try simp only [Act.put, List.setIfInBounds_toArray, List.set_cons_zero, List.set_cons_succ]
  refine lu rfl (some 39) rfl ?_
  try simp only [Act.put, List.setIfInBounds_toArray, List.set_cons_zero, List.set_cons_succ]
  refine lv rfl (some 40) rfl (v := ?_) ?_ ?_
  rotate_left
  · go_simp; try with_reducible rfl
  try simp only [Act.put, List.setIfInBounds_toArray, List.set_cons_zero, List.set_cons_succ]
  refine wpList_nil ?_
  go_upto_region 9 with fail
  refine wp_region_lit ?_
  refine lv rfl (some 41) rfl (v := ?_) ?_ ?_
  rotate_left
  · go_simp; try with_reducible rfl
  try simp only [Act.put, List.setIfInBounds_toArray, List.set_cons_zero, List.set_cons_succ]
  refine lv rfl (some 42) rfl (v := ?_) ?_ ?_
  rotate_left
  · go_simp; try with_reducible rfl
  try simp only [Act.put, List.setIfInBounds_toArray, List.set_cons_zero, List.set_cons_succ]
  refine lu rfl (some 43) rfl ?_
  try simp only [Act.put, List.setIfInBounds_toArray, List.set_cons_zero, List.set_cons_succ]
  refine lv rfl (some 44) rfl (v := ?_) ?_ ?_
  rotate_left
  · go_simp; try with_reducible rfl
  try simp only [Act.put, List.setIfInBounds_toArray, List.set_cons_zero, List.set_cons_succ]
  refine lv rfl (some 45) rfl (v := ?_) ?_ ?_
  rotate_left
  · go_simp; try with_reducible rfl
  try simp only [Act.put, List.setIfInBounds_toArray, List.set_cons_zero, List.set_cons_succ]
  refine lu rfl (some 46) rfl ?_
  try simp only [Act.put, List.setIfInBounds_toArray, List.set_cons_zero, List.set_cons_succ]
  refine lu rfl (some 47) rfl ?_
  try simp only [Act.put, List.setIfInBounds_toArray, List.set_cons_zero, List.set_cons_succ]
  refine lu rfl (some 48) rfl ?_
  try simp only [Act.put, List.setIfInBounds_toArray, List.set_cons_zero, List.set_cons_succ]
  refine lu rfl (some 49) rfl ?_
  try simp only [Act.put, List.setIfInBounds_toArray, List.set_cons_zero, List.set_cons_succ]
  refine lu rfl (some 50) rfl ?_
  try simp only [Act.put, List.setIfInBounds_toArray, List.set_cons_zero, List.set_cons_succ]
  refine lv rfl (some 51) rfl (v := ?_) ?_ ?_
  rotate_left
  · go_simp; try with_reducible rfl
  try simp only [Act.put, List.setIfInBounds_toArray, List.set_cons_zero, List.set_cons_succ]
  refine lv rfl (some 52) rfl (v := ?_) ?_ ?_
  rotate_left
  · go_simp; try with_reducible rfl
  try simp only [Act.put, List.setIfInBounds_toArray, List.set_cons_zero, List.set_cons_succ]
  refine lu rfl (some 53) rfl ?_
  try simp only [Act.put, List.setIfInBounds_toArray, List.set_cons_zero, List.set_cons_succ]
  refine lu rfl (some 54) rfl ?_
  try simp only [Act.put, List.setIfInBounds_toArray, List.set_cons_zero, List.set_cons_succ]
  refine lu rfl (some 55) rfl ?_
  try simp only [Act.put, List.setIfInBounds_toArray, List.set_cons_zero, List.set_cons_succ]
  refine lv rfl (some 56) rfl (v := ?_) ?_ ?_
  rotate_left
  · go_simp; try with_reducible rfl
  try simp only [Act.put, List.setIfInBounds_toArray, List.set_cons_zero, List.set_cons_succ]
  refine wpList_nil ?_
  go_upto_region 11 with fail
  refine wp_region_lit ?_
  refine ly M4 (some 58) rfl (yi_row 0 26 (.tmp 3) rfl rfl rfl rfl Try.underlying26 rfl (by kernel_rfl)) ?_
  try simp only [Act.put, List.setIfInBounds_toArray, List.set_cons_zero, List.set_cons_succ]
  refine ly M4 (some 59) rfl (yi_row 2 23 (.tmp 5) rfl rfl rfl rfl Try.underlying23 rfl (by kernel_rfl)) ?_
  try simp only [Act.put, List.setIfInBounds_toArray, List.set_cons_zero, List.set_cons_succ]
  refine l_call rfl (some 60) rfl (x1 _) (by kernel_rfl) (fun s5 hb5 => ?_)
  have M5 := M4.call hb5
  clear hb5 M4
  try simp only [Act.put, List.setIfInBounds_toArray, List.set_cons_zero, List.set_cons_succ]
  refine lv rfl (some 57) rfl (v := ?_) ?_ ?_
  rotate_left
  · go_simp; try with_reducible rfl
  try simp only [Act.put, List.setIfInBounds_toArray, List.set_cons_zero, List.set_cons_succ]
  refine lv rfl (some 61) rfl (v := ?_) ?_ ?_
  rotate_left
  · go_simp; try with_reducible rfl
  try simp only [Act.put, List.setIfInBounds_toArray, List.set_cons_zero, List.set_cons_succ]
  refine lv rfl (some 62) rfl (v := ?_) ?_ ?_
  rotate_left
  · go_simp; try with_reducible rfl
  try simp only [Act.put, List.setIfInBounds_toArray, List.set_cons_zero, List.set_cons_succ]
  refine l_alloc rfl (some 9) rfl #[.int .u8 0, .int .u8 0, .int .u8 0, .int .u8 0] 31 (by kernel_rfl) ?_
  have M6 := M5.new rfl 31 #[.int .u8 0, .int .u8 0, .int .u8 0, .int .u8 0]
  clear M5
  try simp only [List.cons_append, List.nil_append, List.set_cons_zero, List.set_cons_succ] at M6
  try simp only [Act.put, List.setIfInBounds_toArray, List.set_cons_zero, List.set_cons_succ]
  refine l_store M6 3 rfl 31 (.tmp 9) _ rfl rfl rfl rfl _ rfl (by kernel_rfl) (by rfl) (by kernel_rfl) _ rfl (fun s7 M7 => ?_)
  clear M6
  try simp only [List.cons_append, List.nil_append, List.set_cons_zero, List.set_cons_succ] at M7
  try simp only [Act.put, List.setIfInBounds_toArray, List.set_cons_zero, List.set_cons_succ]
  refine lv rfl (some 10) rfl (v := ?_) ?_ ?_
  rotate_left
  · go_simp; try with_reducible rfl
  try simp only [Act.put, List.setIfInBounds_toArray, List.set_cons_zero, List.set_cons_succ]
  refine wpList_nil ?_
  go_upto_region 12 with fail
  refine wp_region_lit ?_
  refine ly M7 (some 64) rfl (yi_row 1 26 (.tmp 4) rfl rfl rfl rfl Try.underlying26 rfl (by kernel_rfl)) ?_
  try simp only [Act.put, List.setIfInBounds_toArray, List.set_cons_zero, List.set_cons_succ]
  refine ly M7 (some 65) rfl (yi_row 2 23 (.tmp 5) rfl rfl rfl rfl Try.underlying23 rfl (by kernel_rfl)) ?_
  try simp only [Act.put, List.setIfInBounds_toArray, List.set_cons_zero, List.set_cons_succ]
  refine l_call rfl (some 66) rfl (x2 _) (by kernel_rfl) (fun s8 hb8 => ?_)
  have M8 := M7.call hb8
  clear hb8 M7
  try simp only [Act.put, List.setIfInBounds_toArray, List.set_cons_zero, List.set_cons_succ]
  refine lv rfl (some 63) rfl (v := ?_) ?_ ?_
  rotate_left
  · go_simp; try with_reducible rfl
  try simp only [Act.put, List.setIfInBounds_toArray, List.set_cons_zero, List.set_cons_succ]
  refine lv rfl (some 67) rfl (v := ?_) ?_ ?_
  rotate_left
  · go_simp; try with_reducible rfl
  try simp only [Act.put, List.setIfInBounds_toArray, List.set_cons_zero, List.set_cons_succ]
  refine lv rfl (some 68) rfl (v := ?_) ?_ ?_
  rotate_left
  · go_simp; try with_reducible rfl
  try simp only [Act.put, List.setIfInBounds_toArray, List.set_cons_zero, List.set_cons_succ]
  refine l_alloc rfl (some 11) rfl #[.int .u8 0, .int .u8 0, .int .u8 0, .int .u8 0] 31 (by kernel_rfl) ?_
  have M9 := M8.new rfl 31 #[.int .u8 0, .int .u8 0, .int .u8 0, .int .u8 0]
  clear M8
  try simp only [List.cons_append, List.nil_append, List.set_cons_zero, List.set_cons_succ] at M9
  try simp only [Act.put, List.setIfInBounds_toArray, List.set_cons_zero, List.set_cons_succ]
  refine l_store M9 4 rfl 31 (.tmp 11) _ rfl rfl rfl rfl _ rfl (by kernel_rfl) (by rfl) (by kernel_rfl) _ rfl (fun s10 M10 => ?_)
  clear M9
  try simp only [List.cons_append, List.nil_append, List.set_cons_zero, List.set_cons_succ] at M10
  try simp only [Act.put, List.setIfInBounds_toArray, List.set_cons_zero, List.set_cons_succ]
  refine lv rfl (some 12) rfl (v := ?_) ?_ ?_
  rotate_left
  · go_simp; try with_reducible rfl
  try simp only [Act.put, List.setIfInBounds_toArray, List.set_cons_zero, List.set_cons_succ]
  refine wpList_nil ?_
  go_upto_region 13 with fail
  refine wp_region_lit ?_
  refine lv rfl (some 69) rfl (v := ?_) ?_ ?_
  rotate_left
  · go_simp; try with_reducible rfl
  try simp only [Act.put, List.setIfInBounds_toArray, List.set_cons_zero, List.set_cons_succ]
  refine lv rfl (some 70) rfl (v := ?_) ?_ ?_
  rotate_left
  · go_simp; try with_reducible rfl
  try simp only [Act.put, List.setIfInBounds_toArray, List.set_cons_zero, List.set_cons_succ]
  refine lv rfl (some 71) rfl (v := ?_) ?_ ?_
  rotate_left
  · go_simp; try with_reducible rfl
  try simp only [Act.put, List.setIfInBounds_toArray, List.set_cons_zero, List.set_cons_succ]
  refine lv rfl (some 72) rfl (v := ?_) ?_ ?_
  rotate_left
  · go_simp; try with_reducible rfl
  try simp only [Act.put, List.setIfInBounds_toArray, List.set_cons_zero, List.set_cons_succ]
  refine lv rfl (some 73) rfl (v := ?_) ?_ ?_
  rotate_left
  · go_simp; try with_reducible rfl
  try simp only [Act.put, List.setIfInBounds_toArray, List.set_cons_zero, List.set_cons_succ]
  refine lv rfl (some 74) rfl (v := ?_) ?_ ?_
  rotate_left
  · go_simp; try with_reducible rfl
  try simp only [Act.put, List.setIfInBounds_toArray, List.set_cons_zero, List.set_cons_succ]
  refine lv rfl (some 75) rfl (v := ?_) ?_ ?_
  rotate_left
  · go_simp; try with_reducible rfl
  try simp only [Act.put, List.setIfInBounds_toArray, List.set_cons_zero, List.set_cons_succ]
  refine lv rfl (some 76) rfl (v := ?_) ?_ ?_
  rotate_left
  · go_simp; try with_reducible rfl
  try simp only [Act.put, List.setIfInBounds_toArray, List.set_cons_zero, List.set_cons_succ]
  refine lv rfl (some 77) rfl (v := ?_) ?_ ?_
  rotate_left
  · go_simp; try with_reducible rfl
  try simp only [Act.put, List.setIfInBounds_toArray, List.set_cons_zero, List.set_cons_succ]
  refine lv rfl (some 78) rfl (v := ?_) ?_ ?_
  rotate_left
  · go_simp; try with_reducible rfl
  try simp only [Act.put, List.setIfInBounds_toArray, List.set_cons_zero, List.set_cons_succ]
  refine lv rfl (some 79) rfl (v := ?_) ?_ ?_
  rotate_left
  · go_simp; try with_reducible rfl
  try simp only [Act.put, List.setIfInBounds_toArray, List.set_cons_zero, List.set_cons_succ]
  refine lv rfl (some 80) rfl (v := ?_) ?_ ?_
  rotate_left
  · go_simp; try with_reducible rfl
  try simp only [Act.put, List.setIfInBounds_toArray, List.set_cons_zero, List.set_cons_succ]
  refine lv rfl (some 81) rfl (v := ?_) ?_ ?_
  rotate_left
  · go_simp; try with_reducible rfl
  try simp only [Act.put, List.setIfInBounds_toArray, List.set_cons_zero, List.set_cons_succ]
  refine ly M10 (some 82) rfl (yi_row 0 26 (.tmp 3) rfl rfl rfl rfl Try.underlying26 rfl (by kernel_rfl)) ?_
  try simp only [Act.put, List.setIfInBounds_toArray, List.set_cons_zero, List.set_cons_succ]
  refine l_call rfl (some 83) rfl (r1 _) (by kernel_rfl) (fun s11 hb11 => ?_)
  have M11 := M10.call hb11
  clear hb11 M10
  try simp only [Act.put, List.setIfInBounds_toArray, List.set_cons_zero, List.set_cons_succ]
  refine lv rfl (some 84) rfl (v := ?_) ?_ ?_
  rotate_left
  · go_simp; try with_reducible rfl
  try simp only [Act.put, List.setIfInBounds_toArray, List.set_cons_zero, List.set_cons_succ]
  refine lv rfl (some 85) rfl (v := ?_) ?_ ?_
  rotate_left
  · go_simp; try with_reducible rfl
  try simp only [Act.put, List.setIfInBounds_toArray, List.set_cons_zero, List.set_cons_succ]
  refine ly M11 (some 86) rfl (yi_row 0 26 (.tmp 3) rfl rfl rfl rfl Try.underlying26 rfl (by kernel_rfl)) ?_
  try simp only [Act.put, List.setIfInBounds_toArray, List.set_cons_zero, List.set_cons_succ]
  refine lv rfl (some 87) rfl (v := ?_) ?_ ?_
  rotate_left
  · go_simp; try with_reducible rfl
  try simp only [Act.put, List.setIfInBounds_toArray, List.set_cons_zero, List.set_cons_succ]
  refine ly M11 (some 88) rfl (yi_part 0 23 (.tmp 87) rfl rfl rfl 0 rfl (a16 P) Try.underlying23 rfl (by kernel_rfl) (by kernel_rfl)) ?_
  try simp only [Act.put, List.setIfInBounds_toArray, List.set_cons_zero, List.set_cons_succ]
  refine l_call rfl (some 89) rfl (i1 _) (by kernel_rfl) (fun s12 hb12 => ?_)
  have M12 := M11.call hb12
  clear hb12 M11
  try simp only [Act.put, List.setIfInBounds_toArray, List.set_cons_zero, List.set_cons_succ]
  refine lv rfl (some 90) rfl (v := ?_) ?_ ?_
  rotate_left
  · go_simp; try with_reducible rfl
  try simp only [Act.put, List.setIfInBounds_toArray, List.set_cons_zero, List.set_cons_succ]
  refine lv rfl (some 91) rfl (v := ?_) ?_ ?_
  rotate_left
  · go_simp; try with_reducible rfl
  try simp only [Act.put, List.setIfInBounds_toArray, List.set_cons_zero, List.set_cons_succ]
  refine lv rfl (some 6) rfl (v := ?_) ?_ ?_
  rotate_left
  · go_simp; try with_reducible rfl
  try simp only [Act.put, List.setIfInBounds_toArray, List.set_cons_zero, List.set_cons_succ]
  refine wpList_nil ?_
  go_wp2_with fail
  go_ret
  exact ⟨rfl, M12.below⟩
set_option maxRecDepth 100000 in
set_option maxHeartbeats 4000000 in
theorem apart_000n (P Q X : Nat → Int) (n m : Int) (w : World) (bp : Bytes 16 P) (bq : Bytes 16 Q) (bx : Bytes 16 X) (hl : ¬ m < n) (ha : ¬ InsideP P X n) (hb : ¬ InsideP Q X m) (hr : ¬ RightP P n) : Calls Try.prog 8 #[net P n, net Q m, .agg (a16 X)] w fun e w' => e = .returned (.bool true) ∧ Below w.heap.size w w' := by
  have c1 := fun w => inside_n bp bx ha w
  have c2 := fun w => inside_n bq bx hb w
  obtain ⟨C, r, hC, x1⟩ := extract_ex n bp bx
  obtain ⟨D, s, hD, x2⟩ := extract_ex m bq bx
  obtain rfl : r = false := by cases r with | false => rfl | true => exact absurd (hC rfl) ha
  obtain rfl : s = false := by cases s with | false => rfl | true => exact absurd (hD rfl) hb
  have r1 := fun w => right_f P n w hr
  have ht : n ≤ m := by omega
  clear bp bq bx ha hb hl hC hD hr
  go_enter Try.func8, Try.ntmps8
  go_upto_region 1 with fail
  have M0 := Mem.three w 26 26 23 #[.int .u8 (P 0), .int .u8 (P 1), .int .u8 (P 2), .int .u8 (P 3), .int .u8 (P 4), .int .u8 (P 5), .int .u8 (P 6), .int .u8 (P 7), .int .u8 (P 8), .int .u8 (P 9), .int .u8 (P 10), .int .u8 (P 11), .int .u8 (P 12), .int .u8 (P 13), .int .u8 (P 14), .int .u8 (P 15), .int .i64 n] #[.int .u8 (Q 0), .int .u8 (Q 1), .int .u8 (Q 2), .int .u8 (Q 3), .int .u8 (Q 4), .int .u8 (Q 5), .int .u8 (Q 6), .int .u8 (Q 7), .int .u8 (Q 8), .int .u8 (Q 9), .int .u8 (Q 10), .int .u8 (Q 11), .int .u8 (Q 12), .int .u8 (Q 13), .int .u8 (Q 14), .int .u8 (Q 15), .int .i64 m] (a16 X)
  refine wp_region_lit ?_
  refine l_call rfl (some 13) rfl (awake_any _) (by kernel_rfl) (fun s1 hb1 => ?_)
  have M1 := M0.call hb1
  clear hb1 M0
  try simp only [Act.put, List.setIfInBounds_toArray, List.set_cons_zero, List.set_cons_succ]
  refine lv rfl (some 14) rfl (v := ?_) ?_ ?_
  rotate_left
  · go_simp; try with_reducible rfl
  try simp only [Act.put, List.setIfInBounds_toArray, List.set_cons_zero, List.set_cons_succ]
  refine wpList_nil ?_
  go_upto_region 3 with fail
  refine wp_region_held_drew (S := fun w' => Mem w w' _) (by kernel_rfl) M1.drew (fun _ => ?_)
  have M2 := M1.drew
  refine tk (i := 0) rfl (some 15) rfl (by kernel_rfl) (by kernel_rfl) (by kernel_rfl) (fun _ _ _ h => h) (yi_row 0 26 (.tmp 3) rfl rfl rfl rfl Try.underlying26 rfl (by kernel_rfl)) M2 ?_
  try simp only [Act.put, List.setIfInBounds_toArray, List.set_cons_zero, List.set_cons_succ]
  refine tk (i := 1) rfl (some 16) rfl (by kernel_rfl) (by kernel_rfl) (by kernel_rfl) (fun _ _ _ h => h) (yi_row 2 23 (.tmp 5) rfl rfl rfl rfl Try.underlying23 rfl (by kernel_rfl)) M2 ?_
  try simp only [Act.put, List.setIfInBounds_toArray, List.set_cons_zero, List.set_cons_succ]
  refine tk (i := 3) rfl (some 18) rfl (by kernel_rfl) (by kernel_rfl) (by kernel_rfl) (fun _ _ _ h => h) (yi_row 1 26 (.tmp 4) rfl rfl rfl rfl Try.underlying26 rfl (by kernel_rfl)) M2 ?_
  try simp only [Act.put, List.setIfInBounds_toArray, List.set_cons_zero, List.set_cons_succ]
  refine tk (i := 4) rfl (some 19) rfl (by kernel_rfl) (by kernel_rfl) (by kernel_rfl) (fun _ _ _ h => h) (yi_row 2 23 (.tmp 5) rfl rfl rfl rfl Try.underlying23 rfl (by kernel_rfl)) M2 ?_
  try simp only [Act.put, List.setIfInBounds_toArray, List.set_cons_zero, List.set_cons_succ]
  refine wpAnyH_ready (rs := [2]) (by kernel_rfl) (by simp) ?_
  refine br_call rfl rfl (some 17) rfl (c1 _) (by kernel_rfl) (fun w' hb => M2.call hb) (fun s3 hb3 => ?_) AllReadyH.nil
  have M3 := M2.call hb3
  clear hb3 M2
  try simp only [Act.put, List.setIfInBounds_toArray, List.set_cons_zero, List.set_cons_succ]
  refine wpAnyH_ready (rs := [5]) (by kernel_rfl) (by simp) ?_
  refine br_call rfl rfl (some 20) rfl (c2 _) (by kernel_rfl) (fun w' hb => M3.call hb) (fun s4 hb4 => ?_) AllReadyH.nil
  have M4 := M3.call hb4
  clear hb4 M3
  try simp only [Act.put, List.setIfInBounds_toArray, List.set_cons_zero, List.set_cons_succ]
  refine tk (i := 6) (v := ?_) rfl (some 7) rfl (by kernel_rfl) (by kernel_rfl) (by kernel_rfl) (fun _ _ _ h => h) (Or.inl ⟨by rfl, ?_⟩) M4 ?_
  rotate_left
  · intro w hS; go_simp; try with_reducible rfl
  try simp only [Act.put, List.setIfInBounds_toArray, List.set_cons_zero, List.set_cons_succ]
  refine tk (i := 7) (v := ?_) rfl (some 8) rfl (by kernel_rfl) (by kernel_rfl) (by kernel_rfl) (fun _ _ _ h => h) (Or.inl ⟨by rfl, ?_⟩) M4 ?_
  rotate_left
  · intro w hS; go_simp; try with_reducible rfl
  try simp only [Act.put, List.setIfInBounds_toArray, List.set_cons_zero, List.set_cons_succ]
  refine wpAnyH_done (by kernel_rfl) ?_ _
  go_upto_region 4 with fail
  refine wp_region_lit ?_
  refine lv rfl (some 21) rfl (v := ?_) ?_ ?_
  rotate_left
  · go_simp; try with_reducible rfl
  try simp only [Act.put, List.setIfInBounds_toArray, List.set_cons_zero, List.set_cons_succ]
  refine ly M4 (some 22) rfl (yi_cell 0 3 (.tmp 21) rfl rfl rfl _ rfl _ Try.underlying3 rfl) ?_
  try simp only [Act.put, List.setIfInBounds_toArray, List.set_cons_zero, List.set_cons_succ]
  refine lv rfl (some 23) rfl (v := ?_) ?_ ?_
  rotate_left
  · go_simp; try with_reducible rfl
  try simp only [Act.put, List.setIfInBounds_toArray, List.set_cons_zero, List.set_cons_succ]
  refine ly M4 (some 24) rfl (yi_cell 1 3 (.tmp 23) rfl rfl rfl _ rfl _ Try.underlying3 rfl) ?_
  try simp only [Act.put, List.setIfInBounds_toArray, List.set_cons_zero, List.set_cons_succ]
  refine lv rfl (some 25) rfl (v := ?_) ?_ ?_
  rotate_left
  · go_simp; try with_reducible rfl
  try simp only [Act.put, List.setIfInBounds_toArray, List.set_cons_zero, List.set_cons_succ]
  refine wpList_nil ?_
  go_upto_region 7 with fail
  refine wp_region_lit ?_
  refine lv rfl (some 30) rfl (v := ?_) ?_ ?_
  rotate_left
  · go_simp; try with_reducible rfl
  try simp only [Act.put, List.setIfInBounds_toArray, List.set_cons_zero, List.set_cons_succ]
  refine lv rfl (some 31) rfl (v := ?_) ?_ ?_
  rotate_left
  · go_simp; try with_reducible rfl
  try simp only [Act.put, List.setIfInBounds_toArray, List.set_cons_zero, List.set_cons_succ]
  refine lu rfl (some 32) rfl ?_
  try simp only [Act.put, List.setIfInBounds_toArray, List.set_cons_zero, List.set_cons_succ]
  refine lv rfl (some 33) rfl (v := ?_) ?_ ?_
  rotate_left
  · go_simp; try with_reducible rfl
  try simp only [Act.put, List.setIfInBounds_toArray, List.set_cons_zero, List.set_cons_succ]
  refine lv rfl (some 34) rfl (v := ?_) ?_ ?_
  rotate_left
  · go_simp; try with_reducible rfl
  try simp only [Act.put, List.setIfInBounds_toArray, List.set_cons_zero, List.set_cons_succ]
  refine lu rfl (some 35) rfl ?_
  try simp only [Act.put, List.setIfInBounds_toArray, List.set_cons_zero, List.set_cons_succ]
  refine lu rfl (some 36) rfl ?_
  try simp only [Act.put, List.setIfInBounds_toArray, List.set_cons_zero, List.set_cons_succ]
  refine lu rfl (some 37) rfl ?_
  try simp only [Act.put, List.setIfInBounds_toArray, List.set_cons_zero, List.set_cons_succ]
  refine lu rfl (some 38) rfl ?_
  try simp only [Act.put, List.setIfInBounds_toArray, List.set_cons_zero, List.set_cons_succ]
  refine lu rfl (some 39) rfl ?_
  try simp only [Act.put, List.setIfInBounds_toArray, List.set_cons_zero, List.set_cons_succ]
  refine lv rfl (some 40) rfl (v := ?_) ?_ ?_
  rotate_left
  · go_simp; try with_reducible rfl
  try simp only [Act.put, List.setIfInBounds_toArray, List.set_cons_zero, List.set_cons_succ]
  refine wpList_nil ?_
  go_upto_region 9 with fail
  refine wp_region_lit ?_
  refine lv rfl (some 41) rfl (v := ?_) ?_ ?_
  rotate_left
  · go_simp; try with_reducible rfl
  try simp only [Act.put, List.setIfInBounds_toArray, List.set_cons_zero, List.set_cons_succ]
  refine lv rfl (some 42) rfl (v := ?_) ?_ ?_
  rotate_left
  · go_simp; try with_reducible rfl
  try simp only [Act.put, List.setIfInBounds_toArray, List.set_cons_zero, List.set_cons_succ]
  refine lu rfl (some 43) rfl ?_
  try simp only [Act.put, List.setIfInBounds_toArray, List.set_cons_zero, List.set_cons_succ]
  refine lv rfl (some 44) rfl (v := ?_) ?_ ?_
  rotate_left
  · go_simp; try with_reducible rfl
  try simp only [Act.put, List.setIfInBounds_toArray, List.set_cons_zero, List.set_cons_succ]
  refine lv rfl (some 45) rfl (v := ?_) ?_ ?_
  rotate_left
  · go_simp; try with_reducible rfl
  try simp only [Act.put, List.setIfInBounds_toArray, List.set_cons_zero, List.set_cons_succ]
  refine lu rfl (some 46) rfl ?_
  try simp only [Act.put, List.setIfInBounds_toArray, List.set_cons_zero, List.set_cons_succ]
  refine lu rfl (some 47) rfl ?_
  try simp only [Act.put, List.setIfInBounds_toArray, List.set_cons_zero, List.set_cons_succ]
  refine lu rfl (some 48) rfl ?_
  try simp only [Act.put, List.setIfInBounds_toArray, List.set_cons_zero, List.set_cons_succ]
  refine lu rfl (some 49) rfl ?_
  try simp only [Act.put, List.setIfInBounds_toArray, List.set_cons_zero, List.set_cons_succ]
  refine lu rfl (some 50) rfl ?_
  try simp only [Act.put, List.setIfInBounds_toArray, List.set_cons_zero, List.set_cons_succ]
  refine lv rfl (some 51) rfl (v := ?_) ?_ ?_
  rotate_left
  · go_simp; try with_reducible rfl
  try simp only [Act.put, List.setIfInBounds_toArray, List.set_cons_zero, List.set_cons_succ]
  refine lv rfl (some 52) rfl (v := ?_) ?_ ?_
  rotate_left
  · go_simp; try with_reducible rfl
  try simp only [Act.put, List.setIfInBounds_toArray, List.set_cons_zero, List.set_cons_succ]
  refine lu rfl (some 53) rfl ?_
  try simp only [Act.put, List.setIfInBounds_toArray, List.set_cons_zero, List.set_cons_succ]
  refine lu rfl (some 54) rfl ?_
  try simp only [Act.put, List.setIfInBounds_toArray, List.set_cons_zero, List.set_cons_succ]
  refine lu rfl (some 55) rfl ?_
  try simp only [Act.put, List.setIfInBounds_toArray, List.set_cons_zero, List.set_cons_succ]
  refine lv rfl (some 56) rfl (v := ?_) ?_ ?_
  rotate_left
  · go_simp; try with_reducible rfl
  try simp only [Act.put, List.setIfInBounds_toArray, List.set_cons_zero, List.set_cons_succ]
  refine wpList_nil ?_
  go_upto_region 11 with fail
  refine wp_region_lit ?_
  refine ly M4 (some 58) rfl (yi_row 0 26 (.tmp 3) rfl rfl rfl rfl Try.underlying26 rfl (by kernel_rfl)) ?_
  try simp only [Act.put, List.setIfInBounds_toArray, List.set_cons_zero, List.set_cons_succ]
  refine ly M4 (some 59) rfl (yi_row 2 23 (.tmp 5) rfl rfl rfl rfl Try.underlying23 rfl (by kernel_rfl)) ?_
  try simp only [Act.put, List.setIfInBounds_toArray, List.set_cons_zero, List.set_cons_succ]
  refine l_call rfl (some 60) rfl (x1 _) (by kernel_rfl) (fun s5 hb5 => ?_)
  have M5 := M4.call hb5
  clear hb5 M4
  try simp only [Act.put, List.setIfInBounds_toArray, List.set_cons_zero, List.set_cons_succ]
  refine lv rfl (some 57) rfl (v := ?_) ?_ ?_
  rotate_left
  · go_simp; try with_reducible rfl
  try simp only [Act.put, List.setIfInBounds_toArray, List.set_cons_zero, List.set_cons_succ]
  refine lv rfl (some 61) rfl (v := ?_) ?_ ?_
  rotate_left
  · go_simp; try with_reducible rfl
  try simp only [Act.put, List.setIfInBounds_toArray, List.set_cons_zero, List.set_cons_succ]
  refine lv rfl (some 62) rfl (v := ?_) ?_ ?_
  rotate_left
  · go_simp; try with_reducible rfl
  try simp only [Act.put, List.setIfInBounds_toArray, List.set_cons_zero, List.set_cons_succ]
  refine l_alloc rfl (some 9) rfl #[.int .u8 0, .int .u8 0, .int .u8 0, .int .u8 0] 31 (by kernel_rfl) ?_
  have M6 := M5.new rfl 31 #[.int .u8 0, .int .u8 0, .int .u8 0, .int .u8 0]
  clear M5
  try simp only [List.cons_append, List.nil_append, List.set_cons_zero, List.set_cons_succ] at M6
  try simp only [Act.put, List.setIfInBounds_toArray, List.set_cons_zero, List.set_cons_succ]
  refine l_store M6 3 rfl 31 (.tmp 9) _ rfl rfl rfl rfl _ rfl (by kernel_rfl) (by rfl) (by kernel_rfl) _ rfl (fun s7 M7 => ?_)
  clear M6
  try simp only [List.cons_append, List.nil_append, List.set_cons_zero, List.set_cons_succ] at M7
  try simp only [Act.put, List.setIfInBounds_toArray, List.set_cons_zero, List.set_cons_succ]
  refine lv rfl (some 10) rfl (v := ?_) ?_ ?_
  rotate_left
  · go_simp; try with_reducible rfl
  try simp only [Act.put, List.setIfInBounds_toArray, List.set_cons_zero, List.set_cons_succ]
  refine wpList_nil ?_
  go_upto_region 12 with fail
  refine wp_region_lit ?_
  refine ly M7 (some 64) rfl (yi_row 1 26 (.tmp 4) rfl rfl rfl rfl Try.underlying26 rfl (by kernel_rfl)) ?_
  try simp only [Act.put, List.setIfInBounds_toArray, List.set_cons_zero, List.set_cons_succ]
  refine ly M7 (some 65) rfl (yi_row 2 23 (.tmp 5) rfl rfl rfl rfl Try.underlying23 rfl (by kernel_rfl)) ?_
  try simp only [Act.put, List.setIfInBounds_toArray, List.set_cons_zero, List.set_cons_succ]
  refine l_call rfl (some 66) rfl (x2 _) (by kernel_rfl) (fun s8 hb8 => ?_)
  have M8 := M7.call hb8
  clear hb8 M7
  try simp only [Act.put, List.setIfInBounds_toArray, List.set_cons_zero, List.set_cons_succ]
  refine lv rfl (some 63) rfl (v := ?_) ?_ ?_
  rotate_left
  · go_simp; try with_reducible rfl
  try simp only [Act.put, List.setIfInBounds_toArray, List.set_cons_zero, List.set_cons_succ]
  refine lv rfl (some 67) rfl (v := ?_) ?_ ?_
  rotate_left
  · go_simp; try with_reducible rfl
  try simp only [Act.put, List.setIfInBounds_toArray, List.set_cons_zero, List.set_cons_succ]
  refine lv rfl (some 68) rfl (v := ?_) ?_ ?_
  rotate_left
  · go_simp; try with_reducible rfl
  try simp only [Act.put, List.setIfInBounds_toArray, List.set_cons_zero, List.set_cons_succ]
  refine l_alloc rfl (some 11) rfl #[.int .u8 0, .int .u8 0, .int .u8 0, .int .u8 0] 31 (by kernel_rfl) ?_
  have M9 := M8.new rfl 31 #[.int .u8 0, .int .u8 0, .int .u8 0, .int .u8 0]
  clear M8
  try simp only [List.cons_append, List.nil_append, List.set_cons_zero, List.set_cons_succ] at M9
  try simp only [Act.put, List.setIfInBounds_toArray, List.set_cons_zero, List.set_cons_succ]
  refine l_store M9 4 rfl 31 (.tmp 11) _ rfl rfl rfl rfl _ rfl (by kernel_rfl) (by rfl) (by kernel_rfl) _ rfl (fun s10 M10 => ?_)
  clear M9
  try simp only [List.cons_append, List.nil_append, List.set_cons_zero, List.set_cons_succ] at M10
  try simp only [Act.put, List.setIfInBounds_toArray, List.set_cons_zero, List.set_cons_succ]
  refine lv rfl (some 12) rfl (v := ?_) ?_ ?_
  rotate_left
  · go_simp; try with_reducible rfl
  try simp only [Act.put, List.setIfInBounds_toArray, List.set_cons_zero, List.set_cons_succ]
  refine wpList_nil ?_
  go_upto_region 13 with fail
  refine wp_region_lit ?_
  refine lv rfl (some 69) rfl (v := ?_) ?_ ?_
  rotate_left
  · go_simp; try with_reducible rfl
  try simp only [Act.put, List.setIfInBounds_toArray, List.set_cons_zero, List.set_cons_succ]
  refine lv rfl (some 70) rfl (v := ?_) ?_ ?_
  rotate_left
  · go_simp; try with_reducible rfl
  try simp only [Act.put, List.setIfInBounds_toArray, List.set_cons_zero, List.set_cons_succ]
  refine lv rfl (some 71) rfl (v := ?_) ?_ ?_
  rotate_left
  · go_simp; try with_reducible rfl
  try simp only [Act.put, List.setIfInBounds_toArray, List.set_cons_zero, List.set_cons_succ]
  refine lv rfl (some 72) rfl (v := ?_) ?_ ?_
  rotate_left
  · go_simp; try with_reducible rfl
  try simp only [Act.put, List.setIfInBounds_toArray, List.set_cons_zero, List.set_cons_succ]
  refine lv rfl (some 73) rfl (v := ?_) ?_ ?_
  rotate_left
  · go_simp; try with_reducible rfl
  try simp only [Act.put, List.setIfInBounds_toArray, List.set_cons_zero, List.set_cons_succ]
  refine lv rfl (some 74) rfl (v := ?_) ?_ ?_
  rotate_left
  · go_simp; try with_reducible rfl
  try simp only [Act.put, List.setIfInBounds_toArray, List.set_cons_zero, List.set_cons_succ]
  refine lv rfl (some 75) rfl (v := ?_) ?_ ?_
  rotate_left
  · go_simp; try with_reducible rfl
  try simp only [Act.put, List.setIfInBounds_toArray, List.set_cons_zero, List.set_cons_succ]
  refine lv rfl (some 76) rfl (v := ?_) ?_ ?_
  rotate_left
  · go_simp; try with_reducible rfl
  try simp only [Act.put, List.setIfInBounds_toArray, List.set_cons_zero, List.set_cons_succ]
  refine lv rfl (some 77) rfl (v := ?_) ?_ ?_
  rotate_left
  · go_simp; try with_reducible rfl
  try simp only [Act.put, List.setIfInBounds_toArray, List.set_cons_zero, List.set_cons_succ]
  refine lv rfl (some 78) rfl (v := ?_) ?_ ?_
  rotate_left
  · go_simp; try with_reducible rfl
  try simp only [Act.put, List.setIfInBounds_toArray, List.set_cons_zero, List.set_cons_succ]
  refine lv rfl (some 79) rfl (v := ?_) ?_ ?_
  rotate_left
  · go_simp; try with_reducible rfl
  try simp only [Act.put, List.setIfInBounds_toArray, List.set_cons_zero, List.set_cons_succ]
  refine lv rfl (some 80) rfl (v := ?_) ?_ ?_
  rotate_left
  · go_simp; try with_reducible rfl
  try simp only [Act.put, List.setIfInBounds_toArray, List.set_cons_zero, List.set_cons_succ]
  refine lv rfl (some 81) rfl (v := ?_) ?_ ?_
  rotate_left
  · go_simp; try with_reducible rfl
  try simp only [Act.put, List.setIfInBounds_toArray, List.set_cons_zero, List.set_cons_succ]
  refine ly M10 (some 82) rfl (yi_row 0 26 (.tmp 3) rfl rfl rfl rfl Try.underlying26 rfl (by kernel_rfl)) ?_
  try simp only [Act.put, List.setIfInBounds_toArray, List.set_cons_zero, List.set_cons_succ]
  refine l_call rfl (some 83) rfl (r1 _) (by kernel_rfl) (fun s11 hb11 => ?_)
  have M11 := M10.call hb11
  clear hb11 M10
  try simp only [Act.put, List.setIfInBounds_toArray, List.set_cons_zero, List.set_cons_succ]
  refine lv rfl (some 84) rfl (v := ?_) ?_ ?_
  rotate_left
  · go_simp; try with_reducible rfl
  try simp only [Act.put, List.setIfInBounds_toArray, List.set_cons_zero, List.set_cons_succ]
  refine lv rfl (some 85) rfl (v := ?_) ?_ ?_
  rotate_left
  · go_simp; try with_reducible rfl
  try simp only [Act.put, List.setIfInBounds_toArray, List.set_cons_zero, List.set_cons_succ]
  refine lu rfl (some 86) rfl ?_
  try simp only [Act.put, List.setIfInBounds_toArray, List.set_cons_zero, List.set_cons_succ]
  refine lu rfl (some 87) rfl ?_
  try simp only [Act.put, List.setIfInBounds_toArray, List.set_cons_zero, List.set_cons_succ]
  refine lu rfl (some 88) rfl ?_
  try simp only [Act.put, List.setIfInBounds_toArray, List.set_cons_zero, List.set_cons_succ]
  refine lu rfl (some 89) rfl ?_
  try simp only [Act.put, List.setIfInBounds_toArray, List.set_cons_zero, List.set_cons_succ]
  refine lv rfl (some 90) rfl (v := ?_) ?_ ?_
  rotate_left
  · go_simp; try with_reducible rfl
  try simp only [Act.put, List.setIfInBounds_toArray, List.set_cons_zero, List.set_cons_succ]
  refine lv rfl (some 91) rfl (v := ?_) ?_ ?_
  rotate_left
  · go_simp; try with_reducible rfl
  try simp only [Act.put, List.setIfInBounds_toArray, List.set_cons_zero, List.set_cons_succ]
  refine lv rfl (some 6) rfl (v := ?_) ?_ ?_
  rotate_left
  · go_simp; try with_reducible rfl
  try simp only [Act.put, List.setIfInBounds_toArray, List.set_cons_zero, List.set_cons_succ]
  refine wpList_nil ?_
  go_wp2_with fail
  go_ret
  exact ⟨rfl, M11.below⟩
set_option maxRecDepth 100000 in
set_option maxHeartbeats 4000000 in
theorem apart_111lt (P Q X : Nat → Int) (n m : Int) (w : World) (bp : Bytes 16 P) (bq : Bytes 16 Q) (bx : Bytes 16 X) (hl : m < n) (ha : InsideP Q X m) (hb : InsideP P X n) : Calls Try.prog 8 #[net P n, net Q m, .agg (a16 X)] w fun e w' => e = .returned (.bool true) ∧ Below w.heap.size w w' := by
  have c1 := fun w => inside_t bq bx ha w
  have c2 := fun w => inside_t bp bx hb w
  obtain ⟨C, r, hC, x1⟩ := extract_ex m bq bx
  obtain ⟨D, s, hD, x2⟩ := extract_ex n bp bx
  have r1 := fun w => right_t Q m w ha.1
  have i1 := fun w => inside_t bq bq (inside_self ha.1) w
  have q1 := fun w => inside_t bq bp (inside_le ha hb (by omega)) w
  have hne : (m == n) = false := by simp; omega
  have ht : m < n := by omega
  clear bp bq bx ha hb hl hC hD
  go_enter Try.func8, Try.ntmps8
  go_upto_region 1 with fail
  have M0 := Mem.three w 26 26 23 #[.int .u8 (P 0), .int .u8 (P 1), .int .u8 (P 2), .int .u8 (P 3), .int .u8 (P 4), .int .u8 (P 5), .int .u8 (P 6), .int .u8 (P 7), .int .u8 (P 8), .int .u8 (P 9), .int .u8 (P 10), .int .u8 (P 11), .int .u8 (P 12), .int .u8 (P 13), .int .u8 (P 14), .int .u8 (P 15), .int .i64 n] #[.int .u8 (Q 0), .int .u8 (Q 1), .int .u8 (Q 2), .int .u8 (Q 3), .int .u8 (Q 4), .int .u8 (Q 5), .int .u8 (Q 6), .int .u8 (Q 7), .int .u8 (Q 8), .int .u8 (Q 9), .int .u8 (Q 10), .int .u8 (Q 11), .int .u8 (Q 12), .int .u8 (Q 13), .int .u8 (Q 14), .int .u8 (Q 15), .int .i64 m] (a16 X)
  refine wp_region_lit ?_
  refine l_call rfl (some 13) rfl (awake_any _) (by kernel_rfl) (fun s1 hb1 => ?_)
  have M1 := M0.call hb1
  clear hb1 M0
  try simp only [Act.put, List.setIfInBounds_toArray, List.set_cons_zero, List.set_cons_succ]
  refine lv rfl (some 14) rfl (v := ?_) ?_ ?_
  rotate_left
  · go_simp; try with_reducible rfl
  try simp only [Act.put, List.setIfInBounds_toArray, List.set_cons_zero, List.set_cons_succ]
  refine wpList_nil ?_
  go_upto_region 3 with fail
  refine wp_region_held_drew (S := fun w' => Mem w w' _) (by kernel_rfl) M1.drew (fun _ => ?_)
  have M2 := M1.drew
  refine tk (i := 0) rfl (some 15) rfl (by kernel_rfl) (by kernel_rfl) (by kernel_rfl) (fun _ _ _ h => h) (yi_row 0 26 (.tmp 3) rfl rfl rfl rfl Try.underlying26 rfl (by kernel_rfl)) M2 ?_
  try simp only [Act.put, List.setIfInBounds_toArray, List.set_cons_zero, List.set_cons_succ]
  refine tk (i := 1) rfl (some 16) rfl (by kernel_rfl) (by kernel_rfl) (by kernel_rfl) (fun _ _ _ h => h) (yi_row 2 23 (.tmp 5) rfl rfl rfl rfl Try.underlying23 rfl (by kernel_rfl)) M2 ?_
  try simp only [Act.put, List.setIfInBounds_toArray, List.set_cons_zero, List.set_cons_succ]
  refine tk (i := 3) rfl (some 18) rfl (by kernel_rfl) (by kernel_rfl) (by kernel_rfl) (fun _ _ _ h => h) (yi_row 1 26 (.tmp 4) rfl rfl rfl rfl Try.underlying26 rfl (by kernel_rfl)) M2 ?_
  try simp only [Act.put, List.setIfInBounds_toArray, List.set_cons_zero, List.set_cons_succ]
  refine tk (i := 4) rfl (some 19) rfl (by kernel_rfl) (by kernel_rfl) (by kernel_rfl) (fun _ _ _ h => h) (yi_row 2 23 (.tmp 5) rfl rfl rfl rfl Try.underlying23 rfl (by kernel_rfl)) M2 ?_
  try simp only [Act.put, List.setIfInBounds_toArray, List.set_cons_zero, List.set_cons_succ]
  refine wpAnyH_ready (rs := [2]) (by kernel_rfl) (by simp) ?_
  refine br_call rfl rfl (some 17) rfl (c2 _) (by kernel_rfl) (fun w' hb => M2.call hb) (fun s3 hb3 => ?_) AllReadyH.nil
  have M3 := M2.call hb3
  clear hb3 M2
  try simp only [Act.put, List.setIfInBounds_toArray, List.set_cons_zero, List.set_cons_succ]
  refine wpAnyH_ready (rs := [5]) (by kernel_rfl) (by simp) ?_
  refine br_call rfl rfl (some 20) rfl (c1 _) (by kernel_rfl) (fun w' hb => M3.call hb) (fun s4 hb4 => ?_) AllReadyH.nil
  have M4 := M3.call hb4
  clear hb4 M3
  try simp only [Act.put, List.setIfInBounds_toArray, List.set_cons_zero, List.set_cons_succ]
  refine tk (i := 6) (v := ?_) rfl (some 7) rfl (by kernel_rfl) (by kernel_rfl) (by kernel_rfl) (fun _ _ _ h => h) (Or.inl ⟨by rfl, ?_⟩) M4 ?_
  rotate_left
  · intro w hS; go_simp; try with_reducible rfl
  try simp only [Act.put, List.setIfInBounds_toArray, List.set_cons_zero, List.set_cons_succ]
  refine tk (i := 7) (v := ?_) rfl (some 8) rfl (by kernel_rfl) (by kernel_rfl) (by kernel_rfl) (fun _ _ _ h => h) (Or.inl ⟨by rfl, ?_⟩) M4 ?_
  rotate_left
  · intro w hS; go_simp; try with_reducible rfl
  try simp only [Act.put, List.setIfInBounds_toArray, List.set_cons_zero, List.set_cons_succ]
  refine wpAnyH_done (by kernel_rfl) ?_ _
  go_upto_region 4 with fail
  refine wp_region_lit ?_
  refine lv rfl (some 21) rfl (v := ?_) ?_ ?_
  rotate_left
  · go_simp; try with_reducible rfl
  try simp only [Act.put, List.setIfInBounds_toArray, List.set_cons_zero, List.set_cons_succ]
  refine ly M4 (some 22) rfl (yi_cell 0 3 (.tmp 21) rfl rfl rfl _ rfl _ Try.underlying3 rfl) ?_
  try simp only [Act.put, List.setIfInBounds_toArray, List.set_cons_zero, List.set_cons_succ]
  refine lv rfl (some 23) rfl (v := ?_) ?_ ?_
  rotate_left
  · go_simp; try with_reducible rfl
  try simp only [Act.put, List.setIfInBounds_toArray, List.set_cons_zero, List.set_cons_succ]
  refine ly M4 (some 24) rfl (yi_cell 1 3 (.tmp 23) rfl rfl rfl _ rfl _ Try.underlying3 rfl) ?_
  try simp only [Act.put, List.setIfInBounds_toArray, List.set_cons_zero, List.set_cons_succ]
  refine lv rfl (some 25) rfl (v := ?_) ?_ ?_
  rotate_left
  · go_simp; try with_reducible rfl
  try simp only [Act.put, List.setIfInBounds_toArray, List.set_cons_zero, List.set_cons_succ]
  refine wpList_nil ?_
  go_upto_region 5 with fail
  refine wp_region_lit ?_
  refine ly M4 (some 26) rfl (yi_row 1 26 (.tmp 4) rfl rfl rfl rfl Try.underlying26 rfl (by kernel_rfl)) ?_
  try simp only [Act.put, List.setIfInBounds_toArray, List.set_cons_zero, List.set_cons_succ]
  refine ly M4 (some 27) rfl (yi_row 0 26 (.tmp 3) rfl rfl rfl rfl Try.underlying26 rfl (by kernel_rfl)) ?_
  try simp only [Act.put, List.setIfInBounds_toArray, List.set_cons_zero, List.set_cons_succ]
  refine l_store M4 0 rfl 26 (.tmp 3) _ rfl rfl rfl rfl _ rfl (by kernel_rfl) (by rfl) (by kernel_rfl) _ rfl (fun s5 M5 => ?_)
  clear M4
  try simp only [List.cons_append, List.nil_append, List.set_cons_zero, List.set_cons_succ] at M5
  try simp only [Act.put, List.setIfInBounds_toArray, List.set_cons_zero, List.set_cons_succ]
  refine l_store M5 1 rfl 26 (.tmp 4) _ rfl rfl rfl rfl _ rfl (by kernel_rfl) (by rfl) (by kernel_rfl) _ rfl (fun s6 M6 => ?_)
  clear M5
  try simp only [List.cons_append, List.nil_append, List.set_cons_zero, List.set_cons_succ] at M6
  try simp only [Act.put, List.setIfInBounds_toArray, List.set_cons_zero, List.set_cons_succ]
  refine wpList_nil ?_
  go_upto_region 6 with fail
  refine wp_region_lit ?_
  refine lv rfl (some 28) rfl (v := ?_) ?_ ?_
  rotate_left
  · go_simp; try with_reducible rfl
  try simp only [Act.put, List.setIfInBounds_toArray, List.set_cons_zero, List.set_cons_succ]
  refine lv rfl (some 29) rfl (v := ?_) ?_ ?_
  rotate_left
  · go_simp; try with_reducible rfl
  try simp only [Act.put, List.setIfInBounds_toArray, List.set_cons_zero, List.set_cons_succ]
  refine lv rfl (some 7) rfl (v := ?_) ?_ ?_
  rotate_left
  · go_simp; try with_reducible rfl
  try simp only [Act.put, List.setIfInBounds_toArray, List.set_cons_zero, List.set_cons_succ]
  refine lv rfl (some 8) rfl (v := ?_) ?_ ?_
  rotate_left
  · go_simp; try with_reducible rfl
  try simp only [Act.put, List.setIfInBounds_toArray, List.set_cons_zero, List.set_cons_succ]
  refine wpList_nil ?_
  go_upto_region 7 with fail
  refine wp_region_lit ?_
  refine lv rfl (some 30) rfl (v := ?_) ?_ ?_
  rotate_left
  · go_simp; try with_reducible rfl
  try simp only [Act.put, List.setIfInBounds_toArray, List.set_cons_zero, List.set_cons_succ]
  refine lv rfl (some 31) rfl (v := ?_) ?_ ?_
  rotate_left
  · go_simp; try with_reducible rfl
  try simp only [Act.put, List.setIfInBounds_toArray, List.set_cons_zero, List.set_cons_succ]
  refine lv rfl (some 32) rfl (v := ?_) ?_ ?_
  rotate_left
  · go_simp; try with_reducible rfl
  try simp only [Act.put, List.setIfInBounds_toArray, List.set_cons_zero, List.set_cons_succ]
  refine lv rfl (some 33) rfl (v := ?_) ?_ ?_
  rotate_left
  · go_simp; try with_reducible rfl
  try simp only [Act.put, List.setIfInBounds_toArray, List.set_cons_zero, List.set_cons_succ]
  refine lv rfl (some 34) rfl (v := ?_) ?_ ?_
  rotate_left
  · go_simp; try with_reducible rfl
  try simp only [Act.put, List.setIfInBounds_toArray, List.set_cons_zero, List.set_cons_succ]
  refine ly M6 (some 35) rfl (yi_row 0 26 (.tmp 3) rfl rfl rfl rfl Try.underlying26 rfl (by kernel_rfl)) ?_
  try simp only [Act.put, List.setIfInBounds_toArray, List.set_cons_zero, List.set_cons_succ]
  refine lv rfl (some 36) rfl (v := ?_) ?_ ?_
  rotate_left
  · go_simp; try with_reducible rfl
  try simp only [Act.put, List.setIfInBounds_toArray, List.set_cons_zero, List.set_cons_succ]
  refine ly M6 (some 37) rfl (yi_part 1 23 (.tmp 36) rfl rfl rfl 0 rfl (a16 P) Try.underlying23 rfl (by kernel_rfl) (by kernel_rfl)) ?_
  try simp only [Act.put, List.setIfInBounds_toArray, List.set_cons_zero, List.set_cons_succ]
  refine l_call rfl (some 38) rfl (q1 _) (by kernel_rfl) (fun s7 hb7 => ?_)
  have M7 := M6.call hb7
  clear hb7 M6
  try simp only [Act.put, List.setIfInBounds_toArray, List.set_cons_zero, List.set_cons_succ]
  refine lv rfl (some 39) rfl (v := ?_) ?_ ?_
  rotate_left
  · go_simp; try with_reducible rfl
  try simp only [Act.put, List.setIfInBounds_toArray, List.set_cons_zero, List.set_cons_succ]
  refine lv rfl (some 40) rfl (v := ?_) ?_ ?_
  rotate_left
  · go_simp; try with_reducible rfl
  try simp only [Act.put, List.setIfInBounds_toArray, List.set_cons_zero, List.set_cons_succ]
  refine wpList_nil ?_
  go_upto_region 9 with fail
  refine wp_region_lit ?_
  refine lv rfl (some 41) rfl (v := ?_) ?_ ?_
  rotate_left
  · go_simp; try with_reducible rfl
  try simp only [Act.put, List.setIfInBounds_toArray, List.set_cons_zero, List.set_cons_succ]
  refine lv rfl (some 42) rfl (v := ?_) ?_ ?_
  rotate_left
  · go_simp; try with_reducible rfl
  try simp only [Act.put, List.setIfInBounds_toArray, List.set_cons_zero, List.set_cons_succ]
  refine lv rfl (some 43) rfl (v := ?_) ?_ ?_
  rotate_left
  · go_simp; try with_reducible rfl
  try simp only [Act.put, List.setIfInBounds_toArray, List.set_cons_zero, List.set_cons_succ]
  refine lv rfl (some 44) rfl (v := ?_) ?_ ?_
  rotate_left
  · go_simp; try with_reducible rfl
  try simp only [Act.put, List.setIfInBounds_toArray, List.set_cons_zero, List.set_cons_succ]
  refine lv rfl (some 45) rfl (v := ?_) ?_ ?_
  rotate_left
  · go_simp; try with_reducible rfl
  try simp only [Act.put, List.setIfInBounds_toArray, List.set_cons_zero, List.set_cons_succ]
  refine lv rfl (some 46) rfl (v := ?_) ?_ ?_
  rotate_left
  · go_simp; try with_reducible rfl
  try simp only [Act.put, List.setIfInBounds_toArray, List.set_cons_zero, List.set_cons_succ]
  refine ly M7 (some 47) rfl (yi_cell 0 3 (.tmp 46) rfl rfl rfl _ rfl _ Try.underlying3 rfl) ?_
  try simp only [Act.put, List.setIfInBounds_toArray, List.set_cons_zero, List.set_cons_succ]
  refine lv rfl (some 48) rfl (v := ?_) ?_ ?_
  rotate_left
  · go_simp; try with_reducible rfl
  try simp only [Act.put, List.setIfInBounds_toArray, List.set_cons_zero, List.set_cons_succ]
  refine ly M7 (some 49) rfl (yi_cell 1 3 (.tmp 48) rfl rfl rfl _ rfl _ Try.underlying3 rfl) ?_
  try simp only [Act.put, List.setIfInBounds_toArray, List.set_cons_zero, List.set_cons_succ]
  refine lv rfl (some 50) rfl (v := ?_) ?_ ?_
  rotate_left
  · go_simp; try with_reducible rfl
  try simp only [Act.put, List.setIfInBounds_toArray, List.set_cons_zero, List.set_cons_succ]
  refine lv rfl (some 51) rfl (v := ?_) ?_ ?_
  rotate_left
  · go_simp; try with_reducible rfl
  try simp only [Act.put, List.setIfInBounds_toArray, List.set_cons_zero, List.set_cons_succ]
  refine lv rfl (some 52) rfl (v := ?_) ?_ ?_
  rotate_left
  · go_simp; try with_reducible rfl
  try simp only [Act.put, List.setIfInBounds_toArray, List.set_cons_zero, List.set_cons_succ]
  refine lu rfl (some 53) rfl ?_
  try simp only [Act.put, List.setIfInBounds_toArray, List.set_cons_zero, List.set_cons_succ]
  refine lu rfl (some 54) rfl ?_
  try simp only [Act.put, List.setIfInBounds_toArray, List.set_cons_zero, List.set_cons_succ]
  refine lu rfl (some 55) rfl ?_
  try simp only [Act.put, List.setIfInBounds_toArray, List.set_cons_zero, List.set_cons_succ]
  refine lv rfl (some 56) rfl (v := ?_) ?_ ?_
  rotate_left
  · go_simp; try with_reducible rfl
  try simp only [Act.put, List.setIfInBounds_toArray, List.set_cons_zero, List.set_cons_succ]
  refine wpList_nil ?_
  go_upto_region 11 with fail
  refine wp_region_lit ?_
  refine ly M7 (some 58) rfl (yi_row 0 26 (.tmp 3) rfl rfl rfl rfl Try.underlying26 rfl (by kernel_rfl)) ?_
  try simp only [Act.put, List.setIfInBounds_toArray, List.set_cons_zero, List.set_cons_succ]
  refine ly M7 (some 59) rfl (yi_row 2 23 (.tmp 5) rfl rfl rfl rfl Try.underlying23 rfl (by kernel_rfl)) ?_
  try simp only [Act.put, List.setIfInBounds_toArray, List.set_cons_zero, List.set_cons_succ]
  refine l_call rfl (some 60) rfl (x1 _) (by kernel_rfl) (fun s8 hb8 => ?_)
  have M8 := M7.call hb8
  clear hb8 M7
  try simp only [Act.put, List.setIfInBounds_toArray, List.set_cons_zero, List.set_cons_succ]
  refine lv rfl (some 57) rfl (v := ?_) ?_ ?_
  rotate_left
  · go_simp; try with_reducible rfl
  try simp only [Act.put, List.setIfInBounds_toArray, List.set_cons_zero, List.set_cons_succ]
  refine lv rfl (some 61) rfl (v := ?_) ?_ ?_
  rotate_left
  · go_simp; try with_reducible rfl
  try simp only [Act.put, List.setIfInBounds_toArray, List.set_cons_zero, List.set_cons_succ]
  refine lv rfl (some 62) rfl (v := ?_) ?_ ?_
  rotate_left
  · go_simp; try with_reducible rfl
  try simp only [Act.put, List.setIfInBounds_toArray, List.set_cons_zero, List.set_cons_succ]
  refine l_alloc rfl (some 9) rfl #[.int .u8 0, .int .u8 0, .int .u8 0, .int .u8 0] 31 (by kernel_rfl) ?_
  have M9 := M8.new rfl 31 #[.int .u8 0, .int .u8 0, .int .u8 0, .int .u8 0]
  clear M8
  try simp only [List.cons_append, List.nil_append, List.set_cons_zero, List.set_cons_succ] at M9
  try simp only [Act.put, List.setIfInBounds_toArray, List.set_cons_zero, List.set_cons_succ]
  refine l_store M9 3 rfl 31 (.tmp 9) _ rfl rfl rfl rfl _ rfl (by kernel_rfl) (by rfl) (by kernel_rfl) _ rfl (fun s10 M10 => ?_)
  clear M9
  try simp only [List.cons_append, List.nil_append, List.set_cons_zero, List.set_cons_succ] at M10
  try simp only [Act.put, List.setIfInBounds_toArray, List.set_cons_zero, List.set_cons_succ]
  refine lv rfl (some 10) rfl (v := ?_) ?_ ?_
  rotate_left
  · go_simp; try with_reducible rfl
  try simp only [Act.put, List.setIfInBounds_toArray, List.set_cons_zero, List.set_cons_succ]
  refine wpList_nil ?_
  go_upto_region 12 with fail
  refine wp_region_lit ?_
  refine ly M10 (some 64) rfl (yi_row 1 26 (.tmp 4) rfl rfl rfl rfl Try.underlying26 rfl (by kernel_rfl)) ?_
  try simp only [Act.put, List.setIfInBounds_toArray, List.set_cons_zero, List.set_cons_succ]
  refine ly M10 (some 65) rfl (yi_row 2 23 (.tmp 5) rfl rfl rfl rfl Try.underlying23 rfl (by kernel_rfl)) ?_
  try simp only [Act.put, List.setIfInBounds_toArray, List.set_cons_zero, List.set_cons_succ]
  refine l_call rfl (some 66) rfl (x2 _) (by kernel_rfl) (fun s11 hb11 => ?_)
  have M11 := M10.call hb11
  clear hb11 M10
  try simp only [Act.put, List.setIfInBounds_toArray, List.set_cons_zero, List.set_cons_succ]
  refine lv rfl (some 63) rfl (v := ?_) ?_ ?_
  rotate_left
  · go_simp; try with_reducible rfl
  try simp only [Act.put, List.setIfInBounds_toArray, List.set_cons_zero, List.set_cons_succ]
  refine lv rfl (some 67) rfl (v := ?_) ?_ ?_
  rotate_left
  · go_simp; try with_reducible rfl
  try simp only [Act.put, List.setIfInBounds_toArray, List.set_cons_zero, List.set_cons_succ]
  refine lv rfl (some 68) rfl (v := ?_) ?_ ?_
  rotate_left
  · go_simp; try with_reducible rfl
  try simp only [Act.put, List.setIfInBounds_toArray, List.set_cons_zero, List.set_cons_succ]
  refine l_alloc rfl (some 11) rfl #[.int .u8 0, .int .u8 0, .int .u8 0, .int .u8 0] 31 (by kernel_rfl) ?_
  have M12 := M11.new rfl 31 #[.int .u8 0, .int .u8 0, .int .u8 0, .int .u8 0]
  clear M11
  try simp only [List.cons_append, List.nil_append, List.set_cons_zero, List.set_cons_succ] at M12
  try simp only [Act.put, List.setIfInBounds_toArray, List.set_cons_zero, List.set_cons_succ]
  refine l_store M12 4 rfl 31 (.tmp 11) _ rfl rfl rfl rfl _ rfl (by kernel_rfl) (by rfl) (by kernel_rfl) _ rfl (fun s13 M13 => ?_)
  clear M12
  try simp only [List.cons_append, List.nil_append, List.set_cons_zero, List.set_cons_succ] at M13
  try simp only [Act.put, List.setIfInBounds_toArray, List.set_cons_zero, List.set_cons_succ]
  refine lv rfl (some 12) rfl (v := ?_) ?_ ?_
  rotate_left
  · go_simp; try with_reducible rfl
  try simp only [Act.put, List.setIfInBounds_toArray, List.set_cons_zero, List.set_cons_succ]
  refine wpList_nil ?_
  go_upto_region 13 with fail
  refine wp_region_lit ?_
  refine lv rfl (some 69) rfl (v := ?_) ?_ ?_
  rotate_left
  · go_simp; try with_reducible rfl
  try simp only [Act.put, List.setIfInBounds_toArray, List.set_cons_zero, List.set_cons_succ]
  refine lv rfl (some 70) rfl (v := ?_) ?_ ?_
  rotate_left
  · go_simp; try with_reducible rfl
  try simp only [Act.put, List.setIfInBounds_toArray, List.set_cons_zero, List.set_cons_succ]
  refine lu rfl (some 71) rfl ?_
  try simp only [Act.put, List.setIfInBounds_toArray, List.set_cons_zero, List.set_cons_succ]
  refine lu rfl (some 72) rfl ?_
  try simp only [Act.put, List.setIfInBounds_toArray, List.set_cons_zero, List.set_cons_succ]
  refine lv rfl (some 73) rfl (v := ?_) ?_ ?_
  rotate_left
  · go_simp; try with_reducible rfl
  try simp only [Act.put, List.setIfInBounds_toArray, List.set_cons_zero, List.set_cons_succ]
  refine lv rfl (some 74) rfl (v := ?_) ?_ ?_
  rotate_left
  · go_simp; try with_reducible rfl
  try simp only [Act.put, List.setIfInBounds_toArray, List.set_cons_zero, List.set_cons_succ]
  refine lv rfl (some 75) rfl (v := ?_) ?_ ?_
  rotate_left
  · go_simp; try with_reducible rfl
  try simp only [Act.put, List.setIfInBounds_toArray, List.set_cons_zero, List.set_cons_succ]
  refine lv rfl (some 76) rfl (v := ?_) ?_ ?_
  rotate_left
  · go_simp; try with_reducible rfl
  try simp only [Act.put, List.setIfInBounds_toArray, List.set_cons_zero, List.set_cons_succ]
  refine lu rfl (some 77) rfl ?_
  try simp only [Act.put, List.setIfInBounds_toArray, List.set_cons_zero, List.set_cons_succ]
  refine lu rfl (some 78) rfl ?_
  try simp only [Act.put, List.setIfInBounds_toArray, List.set_cons_zero, List.set_cons_succ]
  refine lv rfl (some 79) rfl (v := ?_) ?_ ?_
  rotate_left
  · go_simp; try with_reducible rfl
  try simp only [Act.put, List.setIfInBounds_toArray, List.set_cons_zero, List.set_cons_succ]
  refine lv rfl (some 80) rfl (v := ?_) ?_ ?_
  rotate_left
  · go_simp; try with_reducible rfl
  try simp only [Act.put, List.setIfInBounds_toArray, List.set_cons_zero, List.set_cons_succ]
  refine lv rfl (some 81) rfl (v := ?_) ?_ ?_
  rotate_left
  · go_simp; try with_reducible rfl
  try simp only [Act.put, List.setIfInBounds_toArray, List.set_cons_zero, List.set_cons_succ]
  refine ly M13 (some 82) rfl (yi_row 0 26 (.tmp 3) rfl rfl rfl rfl Try.underlying26 rfl (by kernel_rfl)) ?_
  try simp only [Act.put, List.setIfInBounds_toArray, List.set_cons_zero, List.set_cons_succ]
  refine l_call rfl (some 83) rfl (r1 _) (by kernel_rfl) (fun s14 hb14 => ?_)
  have M14 := M13.call hb14
  clear hb14 M13
  try simp only [Act.put, List.setIfInBounds_toArray, List.set_cons_zero, List.set_cons_succ]
  refine lv rfl (some 84) rfl (v := ?_) ?_ ?_
  rotate_left
  · go_simp; try with_reducible rfl
  try simp only [Act.put, List.setIfInBounds_toArray, List.set_cons_zero, List.set_cons_succ]
  refine lv rfl (some 85) rfl (v := ?_) ?_ ?_
  rotate_left
  · go_simp; try with_reducible rfl
  try simp only [Act.put, List.setIfInBounds_toArray, List.set_cons_zero, List.set_cons_succ]
  refine ly M14 (some 86) rfl (yi_row 0 26 (.tmp 3) rfl rfl rfl rfl Try.underlying26 rfl (by kernel_rfl)) ?_
  try simp only [Act.put, List.setIfInBounds_toArray, List.set_cons_zero, List.set_cons_succ]
  refine lv rfl (some 87) rfl (v := ?_) ?_ ?_
  rotate_left
  · go_simp; try with_reducible rfl
  try simp only [Act.put, List.setIfInBounds_toArray, List.set_cons_zero, List.set_cons_succ]
  refine ly M14 (some 88) rfl (yi_part 0 23 (.tmp 87) rfl rfl rfl 0 rfl (a16 Q) Try.underlying23 rfl (by kernel_rfl) (by kernel_rfl)) ?_
  try simp only [Act.put, List.setIfInBounds_toArray, List.set_cons_zero, List.set_cons_succ]
  refine l_call rfl (some 89) rfl (i1 _) (by kernel_rfl) (fun s15 hb15 => ?_)
  have M15 := M14.call hb15
  clear hb15 M14
  try simp only [Act.put, List.setIfInBounds_toArray, List.set_cons_zero, List.set_cons_succ]
  refine lv rfl (some 90) rfl (v := ?_) ?_ ?_
  rotate_left
  · go_simp; try with_reducible rfl
  try simp only [Act.put, List.setIfInBounds_toArray, List.set_cons_zero, List.set_cons_succ]
  refine lv rfl (some 91) rfl (v := ?_) ?_ ?_
  rotate_left
  · go_simp; try with_reducible rfl
  try simp only [Act.put, List.setIfInBounds_toArray, List.set_cons_zero, List.set_cons_succ]
  refine lv rfl (some 6) rfl (v := ?_) ?_ ?_
  rotate_left
  · go_simp; try with_reducible rfl
  try simp only [Act.put, List.setIfInBounds_toArray, List.set_cons_zero, List.set_cons_succ]
  refine wpList_nil ?_
  go_wp2_with fail
  go_ret
  exact ⟨rfl, M15.below⟩
set_option maxRecDepth 100000 in
set_option maxHeartbeats 4000000 in
theorem apart_110x (P Q X : Nat → Int) (n m : Int) (w : World) (bp : Bytes 16 P) (bq : Bytes 16 Q) (bx : Bytes 16 X) (hl : m < n) (ha : InsideP Q X m) (hb : ¬ InsideP P X n) : Calls Try.prog 8 #[net P n, net Q m, .agg (a16 X)] w fun e w' => e = .returned (.bool true) ∧ Below w.heap.size w w' := by
  have c1 := fun w => inside_t bq bx ha w
  have c2 := fun w => inside_n bp bx hb w
  obtain ⟨C, r, hC, x1⟩ := extract_ex m bq bx
  obtain ⟨D, s, hD, x2⟩ := extract_ex n bp bx
  obtain rfl : s = false := by cases s with | false => rfl | true => exact absurd (hD rfl) hb
  have r1 := fun w => right_t Q m w ha.1
  have i1 := fun w => inside_t bq bq (inside_self ha.1) w
  have ht : m < n := by omega
  clear bp bq bx ha hb hl hC hD
  go_enter Try.func8, Try.ntmps8
  go_upto_region 1 with fail
  have M0 := Mem.three w 26 26 23 #[.int .u8 (P 0), .int .u8 (P 1), .int .u8 (P 2), .int .u8 (P 3), .int .u8 (P 4), .int .u8 (P 5), .int .u8 (P 6), .int .u8 (P 7), .int .u8 (P 8), .int .u8 (P 9), .int .u8 (P 10), .int .u8 (P 11), .int .u8 (P 12), .int .u8 (P 13), .int .u8 (P 14), .int .u8 (P 15), .int .i64 n] #[.int .u8 (Q 0), .int .u8 (Q 1), .int .u8 (Q 2), .int .u8 (Q 3), .int .u8 (Q 4), .int .u8 (Q 5), .int .u8 (Q 6), .int .u8 (Q 7), .int .u8 (Q 8), .int .u8 (Q 9), .int .u8 (Q 10), .int .u8 (Q 11), .int .u8 (Q 12), .int .u8 (Q 13), .int .u8 (Q 14), .int .u8 (Q 15), .int .i64 m] (a16 X)
  refine wp_region_lit ?_
  refine l_call rfl (some 13) rfl (awake_any _) (by kernel_rfl) (fun s1 hb1 => ?_)
  have M1 := M0.call hb1
  clear hb1 M0
  try simp only [Act.put, List.setIfInBounds_toArray, List.set_cons_zero, List.set_cons_succ]
  refine lv rfl (some 14) rfl (v := ?_) ?_ ?_
  rotate_left
  · go_simp; try with_reducible rfl
  try simp only [Act.put, List.setIfInBounds_toArray, List.set_cons_zero, List.set_cons_succ]
  refine wpList_nil ?_
  go_upto_region 3 with fail
  refine wp_region_held_drew (S := fun w' => Mem w w' _) (by kernel_rfl) M1.drew (fun _ => ?_)
  have M2 := M1.drew
  refine tk (i := 0) rfl (some 15) rfl (by kernel_rfl) (by kernel_rfl) (by kernel_rfl) (fun _ _ _ h => h) (yi_row 0 26 (.tmp 3) rfl rfl rfl rfl Try.underlying26 rfl (by kernel_rfl)) M2 ?_
  try simp only [Act.put, List.setIfInBounds_toArray, List.set_cons_zero, List.set_cons_succ]
  refine tk (i := 1) rfl (some 16) rfl (by kernel_rfl) (by kernel_rfl) (by kernel_rfl) (fun _ _ _ h => h) (yi_row 2 23 (.tmp 5) rfl rfl rfl rfl Try.underlying23 rfl (by kernel_rfl)) M2 ?_
  try simp only [Act.put, List.setIfInBounds_toArray, List.set_cons_zero, List.set_cons_succ]
  refine tk (i := 3) rfl (some 18) rfl (by kernel_rfl) (by kernel_rfl) (by kernel_rfl) (fun _ _ _ h => h) (yi_row 1 26 (.tmp 4) rfl rfl rfl rfl Try.underlying26 rfl (by kernel_rfl)) M2 ?_
  try simp only [Act.put, List.setIfInBounds_toArray, List.set_cons_zero, List.set_cons_succ]
  refine tk (i := 4) rfl (some 19) rfl (by kernel_rfl) (by kernel_rfl) (by kernel_rfl) (fun _ _ _ h => h) (yi_row 2 23 (.tmp 5) rfl rfl rfl rfl Try.underlying23 rfl (by kernel_rfl)) M2 ?_
  try simp only [Act.put, List.setIfInBounds_toArray, List.set_cons_zero, List.set_cons_succ]
  refine wpAnyH_ready (rs := [2]) (by kernel_rfl) (by simp) ?_
  refine br_call rfl rfl (some 17) rfl (c2 _) (by kernel_rfl) (fun w' hb => M2.call hb) (fun s3 hb3 => ?_) AllReadyH.nil
  have M3 := M2.call hb3
  clear hb3 M2
  try simp only [Act.put, List.setIfInBounds_toArray, List.set_cons_zero, List.set_cons_succ]
  refine wpAnyH_ready (rs := [5]) (by kernel_rfl) (by simp) ?_
  refine br_call rfl rfl (some 20) rfl (c1 _) (by kernel_rfl) (fun w' hb => M3.call hb) (fun s4 hb4 => ?_) AllReadyH.nil
  have M4 := M3.call hb4
  clear hb4 M3
  try simp only [Act.put, List.setIfInBounds_toArray, List.set_cons_zero, List.set_cons_succ]
  refine tk (i := 6) (v := ?_) rfl (some 7) rfl (by kernel_rfl) (by kernel_rfl) (by kernel_rfl) (fun _ _ _ h => h) (Or.inl ⟨by rfl, ?_⟩) M4 ?_
  rotate_left
  · intro w hS; go_simp; try with_reducible rfl
  try simp only [Act.put, List.setIfInBounds_toArray, List.set_cons_zero, List.set_cons_succ]
  refine tk (i := 7) (v := ?_) rfl (some 8) rfl (by kernel_rfl) (by kernel_rfl) (by kernel_rfl) (fun _ _ _ h => h) (Or.inl ⟨by rfl, ?_⟩) M4 ?_
  rotate_left
  · intro w hS; go_simp; try with_reducible rfl
  try simp only [Act.put, List.setIfInBounds_toArray, List.set_cons_zero, List.set_cons_succ]
  refine wpAnyH_done (by kernel_rfl) ?_ _
  go_upto_region 4 with fail
  refine wp_region_lit ?_
  refine lv rfl (some 21) rfl (v := ?_) ?_ ?_
  rotate_left
  · go_simp; try with_reducible rfl
  try simp only [Act.put, List.setIfInBounds_toArray, List.set_cons_zero, List.set_cons_succ]
  refine ly M4 (some 22) rfl (yi_cell 0 3 (.tmp 21) rfl rfl rfl _ rfl _ Try.underlying3 rfl) ?_
  try simp only [Act.put, List.setIfInBounds_toArray, List.set_cons_zero, List.set_cons_succ]
  refine lv rfl (some 23) rfl (v := ?_) ?_ ?_
  rotate_left
  · go_simp; try with_reducible rfl
  try simp only [Act.put, List.setIfInBounds_toArray, List.set_cons_zero, List.set_cons_succ]
  refine ly M4 (some 24) rfl (yi_cell 1 3 (.tmp 23) rfl rfl rfl _ rfl _ Try.underlying3 rfl) ?_
  try simp only [Act.put, List.setIfInBounds_toArray, List.set_cons_zero, List.set_cons_succ]
  refine lv rfl (some 25) rfl (v := ?_) ?_ ?_
  rotate_left
  · go_simp; try with_reducible rfl
  try simp only [Act.put, List.setIfInBounds_toArray, List.set_cons_zero, List.set_cons_succ]
  refine wpList_nil ?_
  go_upto_region 5 with fail
  refine wp_region_lit ?_
  refine ly M4 (some 26) rfl (yi_row 1 26 (.tmp 4) rfl rfl rfl rfl Try.underlying26 rfl (by kernel_rfl)) ?_
  try simp only [Act.put, List.setIfInBounds_toArray, List.set_cons_zero, List.set_cons_succ]
  refine ly M4 (some 27) rfl (yi_row 0 26 (.tmp 3) rfl rfl rfl rfl Try.underlying26 rfl (by kernel_rfl)) ?_
  try simp only [Act.put, List.setIfInBounds_toArray, List.set_cons_zero, List.set_cons_succ]
  refine l_store M4 0 rfl 26 (.tmp 3) _ rfl rfl rfl rfl _ rfl (by kernel_rfl) (by rfl) (by kernel_rfl) _ rfl (fun s5 M5 => ?_)
  clear M4
  try simp only [List.cons_append, List.nil_append, List.set_cons_zero, List.set_cons_succ] at M5
  try simp only [Act.put, List.setIfInBounds_toArray, List.set_cons_zero, List.set_cons_succ]
  refine l_store M5 1 rfl 26 (.tmp 4) _ rfl rfl rfl rfl _ rfl (by kernel_rfl) (by rfl) (by kernel_rfl) _ rfl (fun s6 M6 => ?_)
  clear M5
  try simp only [List.cons_append, List.nil_append, List.set_cons_zero, List.set_cons_succ] at M6
  try simp only [Act.put, List.setIfInBounds_toArray, List.set_cons_zero, List.set_cons_succ]
  refine wpList_nil ?_
  go_upto_region 6 with fail
  refine wp_region_lit ?_
  refine lv rfl (some 28) rfl (v := ?_) ?_ ?_
  rotate_left
  · go_simp; try with_reducible rfl
  try simp only [Act.put, List.setIfInBounds_toArray, List.set_cons_zero, List.set_cons_succ]
  refine lv rfl (some 29) rfl (v := ?_) ?_ ?_
  rotate_left
  · go_simp; try with_reducible rfl
  try simp only [Act.put, List.setIfInBounds_toArray, List.set_cons_zero, List.set_cons_succ]
  refine lv rfl (some 7) rfl (v := ?_) ?_ ?_
  rotate_left
  · go_simp; try with_reducible rfl
  try simp only [Act.put, List.setIfInBounds_toArray, List.set_cons_zero, List.set_cons_succ]
  refine lv rfl (some 8) rfl (v := ?_) ?_ ?_
  rotate_left
  · go_simp; try with_reducible rfl
  try simp only [Act.put, List.setIfInBounds_toArray, List.set_cons_zero, List.set_cons_succ]
  refine wpList_nil ?_
  go_upto_region 7 with fail
  refine wp_region_lit ?_
  refine lv rfl (some 30) rfl (v := ?_) ?_ ?_
  rotate_left
  · go_simp; try with_reducible rfl
  try simp only [Act.put, List.setIfInBounds_toArray, List.set_cons_zero, List.set_cons_succ]
  refine lv rfl (some 31) rfl (v := ?_) ?_ ?_
  rotate_left
  · go_simp; try with_reducible rfl
  try simp only [Act.put, List.setIfInBounds_toArray, List.set_cons_zero, List.set_cons_succ]
  refine lv rfl (some 32) rfl (v := ?_) ?_ ?_
  rotate_left
  · go_simp; try with_reducible rfl
  try simp only [Act.put, List.setIfInBounds_toArray, List.set_cons_zero, List.set_cons_succ]
  refine lv rfl (some 33) rfl (v := ?_) ?_ ?_
  rotate_left
  · go_simp; try with_reducible rfl
  try simp only [Act.put, List.setIfInBounds_toArray, List.set_cons_zero, List.set_cons_succ]
  refine lv rfl (some 34) rfl (v := ?_) ?_ ?_
  rotate_left
  · go_simp; try with_reducible rfl
  try simp only [Act.put, List.setIfInBounds_toArray, List.set_cons_zero, List.set_cons_succ]
  refine lu rfl (some 35) rfl ?_
  try simp only [Act.put, List.setIfInBounds_toArray, List.set_cons_zero, List.set_cons_succ]
  refine lu rfl (some 36) rfl ?_
  try simp only [Act.put, List.setIfInBounds_toArray, List.set_cons_zero, List.set_cons_succ]
  refine lu rfl (some 37) rfl ?_
  try simp only [Act.put, List.setIfInBounds_toArray, List.set_cons_zero, List.set_cons_succ]
  refine lu rfl (some 38) rfl ?_
  try simp only [Act.put, List.setIfInBounds_toArray, List.set_cons_zero, List.set_cons_succ]
  refine lu rfl (some 39) rfl ?_
  try simp only [Act.put, List.setIfInBounds_toArray, List.set_cons_zero, List.set_cons_succ]
  refine lv rfl (some 40) rfl (v := ?_) ?_ ?_
  rotate_left
  · go_simp; try with_reducible rfl
  try simp only [Act.put, List.setIfInBounds_toArray, List.set_cons_zero, List.set_cons_succ]
  refine wpList_nil ?_
  go_upto_region 9 with fail
  refine wp_region_lit ?_
  refine lv rfl (some 41) rfl (v := ?_) ?_ ?_
  rotate_left
  · go_simp; try with_reducible rfl
  try simp only [Act.put, List.setIfInBounds_toArray, List.set_cons_zero, List.set_cons_succ]
  refine lv rfl (some 42) rfl (v := ?_) ?_ ?_
  rotate_left
  · go_simp; try with_reducible rfl
  try simp only [Act.put, List.setIfInBounds_toArray, List.set_cons_zero, List.set_cons_succ]
  refine lv rfl (some 43) rfl (v := ?_) ?_ ?_
  rotate_left
  · go_simp; try with_reducible rfl
  try simp only [Act.put, List.setIfInBounds_toArray, List.set_cons_zero, List.set_cons_succ]
  refine lv rfl (some 44) rfl (v := ?_) ?_ ?_
  rotate_left
  · go_simp; try with_reducible rfl
  try simp only [Act.put, List.setIfInBounds_toArray, List.set_cons_zero, List.set_cons_succ]
  refine lv rfl (some 45) rfl (v := ?_) ?_ ?_
  rotate_left
  · go_simp; try with_reducible rfl
  try simp only [Act.put, List.setIfInBounds_toArray, List.set_cons_zero, List.set_cons_succ]
  refine lu rfl (some 46) rfl ?_
  try simp only [Act.put, List.setIfInBounds_toArray, List.set_cons_zero, List.set_cons_succ]
  refine lu rfl (some 47) rfl ?_
  try simp only [Act.put, List.setIfInBounds_toArray, List.set_cons_zero, List.set_cons_succ]
  refine lu rfl (some 48) rfl ?_
  try simp only [Act.put, List.setIfInBounds_toArray, List.set_cons_zero, List.set_cons_succ]
  refine lu rfl (some 49) rfl ?_
  try simp only [Act.put, List.setIfInBounds_toArray, List.set_cons_zero, List.set_cons_succ]
  refine lu rfl (some 50) rfl ?_
  try simp only [Act.put, List.setIfInBounds_toArray, List.set_cons_zero, List.set_cons_succ]
  refine lv rfl (some 51) rfl (v := ?_) ?_ ?_
  rotate_left
  · go_simp; try with_reducible rfl
  try simp only [Act.put, List.setIfInBounds_toArray, List.set_cons_zero, List.set_cons_succ]
  refine lv rfl (some 52) rfl (v := ?_) ?_ ?_
  rotate_left
  · go_simp; try with_reducible rfl
  try simp only [Act.put, List.setIfInBounds_toArray, List.set_cons_zero, List.set_cons_succ]
  refine lu rfl (some 53) rfl ?_
  try simp only [Act.put, List.setIfInBounds_toArray, List.set_cons_zero, List.set_cons_succ]
  refine lu rfl (some 54) rfl ?_
  try simp only [Act.put, List.setIfInBounds_toArray, List.set_cons_zero, List.set_cons_succ]
  refine lu rfl (some 55) rfl ?_
  try simp only [Act.put, List.setIfInBounds_toArray, List.set_cons_zero, List.set_cons_succ]
  refine lv rfl (some 56) rfl (v := ?_) ?_ ?_
  rotate_left
  · go_simp; try with_reducible rfl
  try simp only [Act.put, List.setIfInBounds_toArray, List.set_cons_zero, List.set_cons_succ]
  refine wpList_nil ?_
  go_upto_region 11 with fail
  refine wp_region_lit ?_
  refine ly M6 (some 58) rfl (yi_row 0 26 (.tmp 3) rfl rfl rfl rfl Try.underlying26 rfl (by kernel_rfl)) ?_
  try simp only [Act.put, List.setIfInBounds_toArray, List.set_cons_zero, List.set_cons_succ]
  refine ly M6 (some 59) rfl (yi_row 2 23 (.tmp 5) rfl rfl rfl rfl Try.underlying23 rfl (by kernel_rfl)) ?_
  try simp only [Act.put, List.setIfInBounds_toArray, List.set_cons_zero, List.set_cons_succ]
  refine l_call rfl (some 60) rfl (x1 _) (by kernel_rfl) (fun s7 hb7 => ?_)
  have M7 := M6.call hb7
  clear hb7 M6
  try simp only [Act.put, List.setIfInBounds_toArray, List.set_cons_zero, List.set_cons_succ]
  refine lv rfl (some 57) rfl (v := ?_) ?_ ?_
  rotate_left
  · go_simp; try with_reducible rfl
  try simp only [Act.put, List.setIfInBounds_toArray, List.set_cons_zero, List.set_cons_succ]
  refine lv rfl (some 61) rfl (v := ?_) ?_ ?_
  rotate_left
  · go_simp; try with_reducible rfl
  try simp only [Act.put, List.setIfInBounds_toArray, List.set_cons_zero, List.set_cons_succ]
  refine lv rfl (some 62) rfl (v := ?_) ?_ ?_
  rotate_left
  · go_simp; try with_reducible rfl
  try simp only [Act.put, List.setIfInBounds_toArray, List.set_cons_zero, List.set_cons_succ]
  refine l_alloc rfl (some 9) rfl #[.int .u8 0, .int .u8 0, .int .u8 0, .int .u8 0] 31 (by kernel_rfl) ?_
  have M8 := M7.new rfl 31 #[.int .u8 0, .int .u8 0, .int .u8 0, .int .u8 0]
  clear M7
  try simp only [List.cons_append, List.nil_append, List.set_cons_zero, List.set_cons_succ] at M8
  try simp only [Act.put, List.setIfInBounds_toArray, List.set_cons_zero, List.set_cons_succ]
  refine l_store M8 3 rfl 31 (.tmp 9) _ rfl rfl rfl rfl _ rfl (by kernel_rfl) (by rfl) (by kernel_rfl) _ rfl (fun s9 M9 => ?_)
  clear M8
  try simp only [List.cons_append, List.nil_append, List.set_cons_zero, List.set_cons_succ] at M9
  try simp only [Act.put, List.setIfInBounds_toArray, List.set_cons_zero, List.set_cons_succ]
  refine lv rfl (some 10) rfl (v := ?_) ?_ ?_
  rotate_left
  · go_simp; try with_reducible rfl
  try simp only [Act.put, List.setIfInBounds_toArray, List.set_cons_zero, List.set_cons_succ]
  refine wpList_nil ?_
  go_upto_region 12 with fail
  refine wp_region_lit ?_
  refine ly M9 (some 64) rfl (yi_row 1 26 (.tmp 4) rfl rfl rfl rfl Try.underlying26 rfl (by kernel_rfl)) ?_
  try simp only [Act.put, List.setIfInBounds_toArray, List.set_cons_zero, List.set_cons_succ]
  refine ly M9 (some 65) rfl (yi_row 2 23 (.tmp 5) rfl rfl rfl rfl Try.underlying23 rfl (by kernel_rfl)) ?_
  try simp only [Act.put, List.setIfInBounds_toArray, List.set_cons_zero, List.set_cons_succ]
  refine l_call rfl (some 66) rfl (x2 _) (by kernel_rfl) (fun s10 hb10 => ?_)
  have M10 := M9.call hb10
  clear hb10 M9
  try simp only [Act.put, List.setIfInBounds_toArray, List.set_cons_zero, List.set_cons_succ]
  refine lv rfl (some 63) rfl (v := ?_) ?_ ?_
  rotate_left
  · go_simp; try with_reducible rfl
  try simp only [Act.put, List.setIfInBounds_toArray, List.set_cons_zero, List.set_cons_succ]
  refine lv rfl (some 67) rfl (v := ?_) ?_ ?_
  rotate_left
  · go_simp; try with_reducible rfl
  try simp only [Act.put, List.setIfInBounds_toArray, List.set_cons_zero, List.set_cons_succ]
  refine lv rfl (some 68) rfl (v := ?_) ?_ ?_
  rotate_left
  · go_simp; try with_reducible rfl
  try simp only [Act.put, List.setIfInBounds_toArray, List.set_cons_zero, List.set_cons_succ]
  refine l_alloc rfl (some 11) rfl #[.int .u8 0, .int .u8 0, .int .u8 0, .int .u8 0] 31 (by kernel_rfl) ?_
  have M11 := M10.new rfl 31 #[.int .u8 0, .int .u8 0, .int .u8 0, .int .u8 0]
  clear M10
  try simp only [List.cons_append, List.nil_append, List.set_cons_zero, List.set_cons_succ] at M11
  try simp only [Act.put, List.setIfInBounds_toArray, List.set_cons_zero, List.set_cons_succ]
  refine l_store M11 4 rfl 31 (.tmp 11) _ rfl rfl rfl rfl _ rfl (by kernel_rfl) (by rfl) (by kernel_rfl) _ rfl (fun s12 M12 => ?_)
  clear M11
  try simp only [List.cons_append, List.nil_append, List.set_cons_zero, List.set_cons_succ] at M12
  try simp only [Act.put, List.setIfInBounds_toArray, List.set_cons_zero, List.set_cons_succ]
  refine lv rfl (some 12) rfl (v := ?_) ?_ ?_
  rotate_left
  · go_simp; try with_reducible rfl
  try simp only [Act.put, List.setIfInBounds_toArray, List.set_cons_zero, List.set_cons_succ]
  refine wpList_nil ?_
  go_upto_region 13 with fail
  refine wp_region_lit ?_
  refine lv rfl (some 69) rfl (v := ?_) ?_ ?_
  rotate_left
  · go_simp; try with_reducible rfl
  try simp only [Act.put, List.setIfInBounds_toArray, List.set_cons_zero, List.set_cons_succ]
  refine lv rfl (some 70) rfl (v := ?_) ?_ ?_
  rotate_left
  · go_simp; try with_reducible rfl
  try simp only [Act.put, List.setIfInBounds_toArray, List.set_cons_zero, List.set_cons_succ]
  refine lu rfl (some 71) rfl ?_
  try simp only [Act.put, List.setIfInBounds_toArray, List.set_cons_zero, List.set_cons_succ]
  refine lu rfl (some 72) rfl ?_
  try simp only [Act.put, List.setIfInBounds_toArray, List.set_cons_zero, List.set_cons_succ]
  refine lv rfl (some 73) rfl (v := ?_) ?_ ?_
  rotate_left
  · go_simp; try with_reducible rfl
  try simp only [Act.put, List.setIfInBounds_toArray, List.set_cons_zero, List.set_cons_succ]
  refine lv rfl (some 74) rfl (v := ?_) ?_ ?_
  rotate_left
  · go_simp; try with_reducible rfl
  try simp only [Act.put, List.setIfInBounds_toArray, List.set_cons_zero, List.set_cons_succ]
  refine lv rfl (some 75) rfl (v := ?_) ?_ ?_
  rotate_left
  · go_simp; try with_reducible rfl
  try simp only [Act.put, List.setIfInBounds_toArray, List.set_cons_zero, List.set_cons_succ]
  refine lv rfl (some 76) rfl (v := ?_) ?_ ?_
  rotate_left
  · go_simp; try with_reducible rfl
  try simp only [Act.put, List.setIfInBounds_toArray, List.set_cons_zero, List.set_cons_succ]
  refine lv rfl (some 77) rfl (v := ?_) ?_ ?_
  rotate_left
  · go_simp; try with_reducible rfl
  try simp only [Act.put, List.setIfInBounds_toArray, List.set_cons_zero, List.set_cons_succ]
  refine lv rfl (some 78) rfl (v := ?_) ?_ ?_
  rotate_left
  · go_simp; try with_reducible rfl
  try simp only [Act.put, List.setIfInBounds_toArray, List.set_cons_zero, List.set_cons_succ]
  refine lv rfl (some 79) rfl (v := ?_) ?_ ?_
  rotate_left
  · go_simp; try with_reducible rfl
  try simp only [Act.put, List.setIfInBounds_toArray, List.set_cons_zero, List.set_cons_succ]
  refine lv rfl (some 80) rfl (v := ?_) ?_ ?_
  rotate_left
  · go_simp; try with_reducible rfl
  try simp only [Act.put, List.setIfInBounds_toArray, List.set_cons_zero, List.set_cons_succ]
  refine lv rfl (some 81) rfl (v := ?_) ?_ ?_
  rotate_left
  · go_simp; try with_reducible rfl
  try simp only [Act.put, List.setIfInBounds_toArray, List.set_cons_zero, List.set_cons_succ]
  refine ly M12 (some 82) rfl (yi_row 0 26 (.tmp 3) rfl rfl rfl rfl Try.underlying26 rfl (by kernel_rfl)) ?_
  try simp only [Act.put, List.setIfInBounds_toArray, List.set_cons_zero, List.set_cons_succ]
  refine l_call rfl (some 83) rfl (r1 _) (by kernel_rfl) (fun s13 hb13 => ?_)
  have M13 := M12.call hb13
  clear hb13 M12
  try simp only [Act.put, List.setIfInBounds_toArray, List.set_cons_zero, List.set_cons_succ]
  refine lv rfl (some 84) rfl (v := ?_) ?_ ?_
  rotate_left
  · go_simp; try with_reducible rfl
  try simp only [Act.put, List.setIfInBounds_toArray, List.set_cons_zero, List.set_cons_succ]
  refine lv rfl (some 85) rfl (v := ?_) ?_ ?_
  rotate_left
  · go_simp; try with_reducible rfl
  try simp only [Act.put, List.setIfInBounds_toArray, List.set_cons_zero, List.set_cons_succ]
  refine ly M13 (some 86) rfl (yi_row 0 26 (.tmp 3) rfl rfl rfl rfl Try.underlying26 rfl (by kernel_rfl)) ?_
  try simp only [Act.put, List.setIfInBounds_toArray, List.set_cons_zero, List.set_cons_succ]
  refine lv rfl (some 87) rfl (v := ?_) ?_ ?_
  rotate_left
  · go_simp; try with_reducible rfl
  try simp only [Act.put, List.setIfInBounds_toArray, List.set_cons_zero, List.set_cons_succ]
  refine ly M13 (some 88) rfl (yi_part 0 23 (.tmp 87) rfl rfl rfl 0 rfl (a16 Q) Try.underlying23 rfl (by kernel_rfl) (by kernel_rfl)) ?_
  try simp only [Act.put, List.setIfInBounds_toArray, List.set_cons_zero, List.set_cons_succ]
  refine l_call rfl (some 89) rfl (i1 _) (by kernel_rfl) (fun s14 hb14 => ?_)
  have M14 := M13.call hb14
  clear hb14 M13
  try simp only [Act.put, List.setIfInBounds_toArray, List.set_cons_zero, List.set_cons_succ]
  refine lv rfl (some 90) rfl (v := ?_) ?_ ?_
  rotate_left
  · go_simp; try with_reducible rfl
  try simp only [Act.put, List.setIfInBounds_toArray, List.set_cons_zero, List.set_cons_succ]
  refine lv rfl (some 91) rfl (v := ?_) ?_ ?_
  rotate_left
  · go_simp; try with_reducible rfl
  try simp only [Act.put, List.setIfInBounds_toArray, List.set_cons_zero, List.set_cons_succ]
  refine lv rfl (some 6) rfl (v := ?_) ?_ ?_
  rotate_left
  · go_simp; try with_reducible rfl
  try simp only [Act.put, List.setIfInBounds_toArray, List.set_cons_zero, List.set_cons_succ]
  refine wpList_nil ?_
  go_wp2_with fail
  go_ret
  exact ⟨rfl, M14.below⟩
set_option maxRecDepth 100000 in
set_option maxHeartbeats 4000000 in
theorem apart_101r (P Q X : Nat → Int) (n m : Int) (w : World) (bp : Bytes 16 P) (bq : Bytes 16 Q) (bx : Bytes 16 X) (hl : m < n) (ha : ¬ InsideP Q X m) (hb : InsideP P X n) (hr : RightP Q m) : Calls Try.prog 8 #[net P n, net Q m, .agg (a16 X)] w fun e w' => e = .returned (.bool true) ∧ Below w.heap.size w w' := by
  have c1 := fun w => inside_n bq bx ha w
  have c2 := fun w => inside_t bp bx hb w
  obtain ⟨C, r, hC, x1⟩ := extract_ex m bq bx
  obtain ⟨D, s, hD, x2⟩ := extract_ex n bp bx
  obtain rfl : r = false := by cases r with | false => rfl | true => exact absurd (hC rfl) ha
  have r1 := fun w => right_t Q m w hr
  have i1 := fun w => inside_t bq bq (inside_self hr) w
  have ht : m < n := by omega
  clear bp bq bx ha hb hl hC hD hr
  go_enter Try.func8, Try.ntmps8
  go_upto_region 1 with fail
  have M0 := Mem.three w 26 26 23 #[.int .u8 (P 0), .int .u8 (P 1), .int .u8 (P 2), .int .u8 (P 3), .int .u8 (P 4), .int .u8 (P 5), .int .u8 (P 6), .int .u8 (P 7), .int .u8 (P 8), .int .u8 (P 9), .int .u8 (P 10), .int .u8 (P 11), .int .u8 (P 12), .int .u8 (P 13), .int .u8 (P 14), .int .u8 (P 15), .int .i64 n] #[.int .u8 (Q 0), .int .u8 (Q 1), .int .u8 (Q 2), .int .u8 (Q 3), .int .u8 (Q 4), .int .u8 (Q 5), .int .u8 (Q 6), .int .u8 (Q 7), .int .u8 (Q 8), .int .u8 (Q 9), .int .u8 (Q 10), .int .u8 (Q 11), .int .u8 (Q 12), .int .u8 (Q 13), .int .u8 (Q 14), .int .u8 (Q 15), .int .i64 m] (a16 X)
  refine wp_region_lit ?_
  refine l_call rfl (some 13) rfl (awake_any _) (by kernel_rfl) (fun s1 hb1 => ?_)
  have M1 := M0.call hb1
  clear hb1 M0
  try simp only [Act.put, List.setIfInBounds_toArray, List.set_cons_zero, List.set_cons_succ]
  refine lv rfl (some 14) rfl (v := ?_) ?_ ?_
  rotate_left
  · go_simp; try with_reducible rfl
  try simp only [Act.put, List.setIfInBounds_toArray, List.set_cons_zero, List.set_cons_succ]
  refine wpList_nil ?_
  go_upto_region 3 with fail
  refine wp_region_held_drew (S := fun w' => Mem w w' _) (by kernel_rfl) M1.drew (fun _ => ?_)
  have M2 := M1.drew
  refine tk (i := 0) rfl (some 15) rfl (by kernel_rfl) (by kernel_rfl) (by kernel_rfl) (fun _ _ _ h => h) (yi_row 0 26 (.tmp 3) rfl rfl rfl rfl Try.underlying26 rfl (by kernel_rfl)) M2 ?_
  try simp only [Act.put, List.setIfInBounds_toArray, List.set_cons_zero, List.set_cons_succ]
  refine tk (i := 1) rfl (some 16) rfl (by kernel_rfl) (by kernel_rfl) (by kernel_rfl) (fun _ _ _ h => h) (yi_row 2 23 (.tmp 5) rfl rfl rfl rfl Try.underlying23 rfl (by kernel_rfl)) M2 ?_
  try simp only [Act.put, List.setIfInBounds_toArray, List.set_cons_zero, List.set_cons_succ]
  refine tk (i := 3) rfl (some 18) rfl (by kernel_rfl) (by kernel_rfl) (by kernel_rfl) (fun _ _ _ h => h) (yi_row 1 26 (.tmp 4) rfl rfl rfl rfl Try.underlying26 rfl (by kernel_rfl)) M2 ?_
  try simp only [Act.put, List.setIfInBounds_toArray, List.set_cons_zero, List.set_cons_succ]
  refine tk (i := 4) rfl (some 19) rfl (by kernel_rfl) (by kernel_rfl) (by kernel_rfl) (fun _ _ _ h => h) (yi_row 2 23 (.tmp 5) rfl rfl rfl rfl Try.underlying23 rfl (by kernel_rfl)) M2 ?_
  try simp only [Act.put, List.setIfInBounds_toArray, List.set_cons_zero, List.set_cons_succ]
  refine wpAnyH_ready (rs := [2]) (by kernel_rfl) (by simp) ?_
  refine br_call rfl rfl (some 17) rfl (c2 _) (by kernel_rfl) (fun w' hb => M2.call hb) (fun s3 hb3 => ?_) AllReadyH.nil
  have M3 := M2.call hb3
  clear hb3 M2
  try simp only [Act.put, List.setIfInBounds_toArray, List.set_cons_zero, List.set_cons_succ]
  refine wpAnyH_ready (rs := [5]) (by kernel_rfl) (by simp) ?_
  refine br_call rfl rfl (some 20) rfl (c1 _) (by kernel_rfl) (fun w' hb => M3.call hb) (fun s4 hb4 => ?_) AllReadyH.nil
  have M4 := M3.call hb4
  clear hb4 M3
  try simp only [Act.put, List.setIfInBounds_toArray, List.set_cons_zero, List.set_cons_succ]
  refine tk (i := 6) (v := ?_) rfl (some 7) rfl (by kernel_rfl) (by kernel_rfl) (by kernel_rfl) (fun _ _ _ h => h) (Or.inl ⟨by rfl, ?_⟩) M4 ?_
  rotate_left
  · intro w hS; go_simp; try with_reducible rfl
  try simp only [Act.put, List.setIfInBounds_toArray, List.set_cons_zero, List.set_cons_succ]
  refine tk (i := 7) (v := ?_) rfl (some 8) rfl (by kernel_rfl) (by kernel_rfl) (by kernel_rfl) (fun _ _ _ h => h) (Or.inl ⟨by rfl, ?_⟩) M4 ?_
  rotate_left
  · intro w hS; go_simp; try with_reducible rfl
  try simp only [Act.put, List.setIfInBounds_toArray, List.set_cons_zero, List.set_cons_succ]
  refine wpAnyH_done (by kernel_rfl) ?_ _
  go_upto_region 4 with fail
  refine wp_region_lit ?_
  refine lv rfl (some 21) rfl (v := ?_) ?_ ?_
  rotate_left
  · go_simp; try with_reducible rfl
  try simp only [Act.put, List.setIfInBounds_toArray, List.set_cons_zero, List.set_cons_succ]
  refine ly M4 (some 22) rfl (yi_cell 0 3 (.tmp 21) rfl rfl rfl _ rfl _ Try.underlying3 rfl) ?_
  try simp only [Act.put, List.setIfInBounds_toArray, List.set_cons_zero, List.set_cons_succ]
  refine lv rfl (some 23) rfl (v := ?_) ?_ ?_
  rotate_left
  · go_simp; try with_reducible rfl
  try simp only [Act.put, List.setIfInBounds_toArray, List.set_cons_zero, List.set_cons_succ]
  refine ly M4 (some 24) rfl (yi_cell 1 3 (.tmp 23) rfl rfl rfl _ rfl _ Try.underlying3 rfl) ?_
  try simp only [Act.put, List.setIfInBounds_toArray, List.set_cons_zero, List.set_cons_succ]
  refine lv rfl (some 25) rfl (v := ?_) ?_ ?_
  rotate_left
  · go_simp; try with_reducible rfl
  try simp only [Act.put, List.setIfInBounds_toArray, List.set_cons_zero, List.set_cons_succ]
  refine wpList_nil ?_
  go_upto_region 5 with fail
  refine wp_region_lit ?_
  refine ly M4 (some 26) rfl (yi_row 1 26 (.tmp 4) rfl rfl rfl rfl Try.underlying26 rfl (by kernel_rfl)) ?_
  try simp only [Act.put, List.setIfInBounds_toArray, List.set_cons_zero, List.set_cons_succ]
  refine ly M4 (some 27) rfl (yi_row 0 26 (.tmp 3) rfl rfl rfl rfl Try.underlying26 rfl (by kernel_rfl)) ?_
  try simp only [Act.put, List.setIfInBounds_toArray, List.set_cons_zero, List.set_cons_succ]
  refine l_store M4 0 rfl 26 (.tmp 3) _ rfl rfl rfl rfl _ rfl (by kernel_rfl) (by rfl) (by kernel_rfl) _ rfl (fun s5 M5 => ?_)
  clear M4
  try simp only [List.cons_append, List.nil_append, List.set_cons_zero, List.set_cons_succ] at M5
  try simp only [Act.put, List.setIfInBounds_toArray, List.set_cons_zero, List.set_cons_succ]
  refine l_store M5 1 rfl 26 (.tmp 4) _ rfl rfl rfl rfl _ rfl (by kernel_rfl) (by rfl) (by kernel_rfl) _ rfl (fun s6 M6 => ?_)
  clear M5
  try simp only [List.cons_append, List.nil_append, List.set_cons_zero, List.set_cons_succ] at M6
  try simp only [Act.put, List.setIfInBounds_toArray, List.set_cons_zero, List.set_cons_succ]
  refine wpList_nil ?_
  go_upto_region 6 with fail
  refine wp_region_lit ?_
  refine lv rfl (some 28) rfl (v := ?_) ?_ ?_
  rotate_left
  · go_simp; try with_reducible rfl
  try simp only [Act.put, List.setIfInBounds_toArray, List.set_cons_zero, List.set_cons_succ]
  refine lv rfl (some 29) rfl (v := ?_) ?_ ?_
  rotate_left
  · go_simp; try with_reducible rfl
  try simp only [Act.put, List.setIfInBounds_toArray, List.set_cons_zero, List.set_cons_succ]
  refine lv rfl (some 7) rfl (v := ?_) ?_ ?_
  rotate_left
  · go_simp; try with_reducible rfl
  try simp only [Act.put, List.setIfInBounds_toArray, List.set_cons_zero, List.set_cons_succ]
  refine lv rfl (some 8) rfl (v := ?_) ?_ ?_
  rotate_left
  · go_simp; try with_reducible rfl
  try simp only [Act.put, List.setIfInBounds_toArray, List.set_cons_zero, List.set_cons_succ]
  refine wpList_nil ?_
  go_upto_region 7 with fail
  refine wp_region_lit ?_
  refine lv rfl (some 30) rfl (v := ?_) ?_ ?_
  rotate_left
  · go_simp; try with_reducible rfl
  try simp only [Act.put, List.setIfInBounds_toArray, List.set_cons_zero, List.set_cons_succ]
  refine lv rfl (some 31) rfl (v := ?_) ?_ ?_
  rotate_left
  · go_simp; try with_reducible rfl
  try simp only [Act.put, List.setIfInBounds_toArray, List.set_cons_zero, List.set_cons_succ]
  refine lu rfl (some 32) rfl ?_
  try simp only [Act.put, List.setIfInBounds_toArray, List.set_cons_zero, List.set_cons_succ]
  refine lv rfl (some 33) rfl (v := ?_) ?_ ?_
  rotate_left
  · go_simp; try with_reducible rfl
  try simp only [Act.put, List.setIfInBounds_toArray, List.set_cons_zero, List.set_cons_succ]
  refine lv rfl (some 34) rfl (v := ?_) ?_ ?_
  rotate_left
  · go_simp; try with_reducible rfl
  try simp only [Act.put, List.setIfInBounds_toArray, List.set_cons_zero, List.set_cons_succ]
  refine lu rfl (some 35) rfl ?_
  try simp only [Act.put, List.setIfInBounds_toArray, List.set_cons_zero, List.set_cons_succ]
  refine lu rfl (some 36) rfl ?_
  try simp only [Act.put, List.setIfInBounds_toArray, List.set_cons_zero, List.set_cons_succ]
  refine lu rfl (some 37) rfl ?_
  try simp only [Act.put, List.setIfInBounds_toArray, List.set_cons_zero, List.set_cons_succ]
  refine lu rfl (some 38) rfl ?_
  try simp only [Act.put, List.setIfInBounds_toArray, List.set_cons_zero, List.set_cons_succ]
  refine lu rfl (some 39) rfl ?_
  try simp only [Act.put, List.setIfInBounds_toArray, List.set_cons_zero, List.set_cons_succ]
  refine lv rfl (some 40) rfl (v := ?_) ?_ ?_
  rotate_left
  · go_simp; try with_reducible rfl
  try simp only [Act.put, List.setIfInBounds_toArray, List.set_cons_zero, List.set_cons_succ]
  refine wpList_nil ?_
  go_upto_region 9 with fail
  refine wp_region_lit ?_
  refine lv rfl (some 41) rfl (v := ?_) ?_ ?_
  rotate_left
  · go_simp; try with_reducible rfl
  try simp only [Act.put, List.setIfInBounds_toArray, List.set_cons_zero, List.set_cons_succ]
  refine lv rfl (some 42) rfl (v := ?_) ?_ ?_
  rotate_left
  · go_simp; try with_reducible rfl
  try simp only [Act.put, List.setIfInBounds_toArray, List.set_cons_zero, List.set_cons_succ]
  refine lu rfl (some 43) rfl ?_
  try simp only [Act.put, List.setIfInBounds_toArray, List.set_cons_zero, List.set_cons_succ]
  refine lv rfl (some 44) rfl (v := ?_) ?_ ?_
  rotate_left
  · go_simp; try with_reducible rfl
  try simp only [Act.put, List.setIfInBounds_toArray, List.set_cons_zero, List.set_cons_succ]
  refine lv rfl (some 45) rfl (v := ?_) ?_ ?_
  rotate_left
  · go_simp; try with_reducible rfl
  try simp only [Act.put, List.setIfInBounds_toArray, List.set_cons_zero, List.set_cons_succ]
  refine lu rfl (some 46) rfl ?_
  try simp only [Act.put, List.setIfInBounds_toArray, List.set_cons_zero, List.set_cons_succ]
  refine lu rfl (some 47) rfl ?_
  try simp only [Act.put, List.setIfInBounds_toArray, List.set_cons_zero, List.set_cons_succ]
  refine lu rfl (some 48) rfl ?_
  try simp only [Act.put, List.setIfInBounds_toArray, List.set_cons_zero, List.set_cons_succ]
  refine lu rfl (some 49) rfl ?_
  try simp only [Act.put, List.setIfInBounds_toArray, List.set_cons_zero, List.set_cons_succ]
  refine lu rfl (some 50) rfl ?_
  try simp only [Act.put, List.setIfInBounds_toArray, List.set_cons_zero, List.set_cons_succ]
  refine lv rfl (some 51) rfl (v := ?_) ?_ ?_
  rotate_left
  · go_simp; try with_reducible rfl
  try simp only [Act.put, List.setIfInBounds_toArray, List.set_cons_zero, List.set_cons_succ]
  refine lv rfl (some 52) rfl (v := ?_) ?_ ?_
  rotate_left
  · go_simp; try with_reducible rfl
  try simp only [Act.put, List.setIfInBounds_toArray, List.set_cons_zero, List.set_cons_succ]
  refine lu rfl (some 53) rfl ?_
  try simp only [Act.put, List.setIfInBounds_toArray, List.set_cons_zero, List.set_cons_succ]
  refine lu rfl (some 54) rfl ?_
  try simp only [Act.put, List.setIfInBounds_toArray, List.set_cons_zero, List.set_cons_succ]
  refine lu rfl (some 55) rfl ?_
  try simp only [Act.put, List.setIfInBounds_toArray, List.set_cons_zero, List.set_cons_succ]
  refine lv rfl (some 56) rfl (v := ?_) ?_ ?_
  rotate_left
  · go_simp; try with_reducible rfl
  try simp only [Act.put, List.setIfInBounds_toArray, List.set_cons_zero, List.set_cons_succ]
  refine wpList_nil ?_
  go_upto_region 11 with fail
  refine wp_region_lit ?_
  refine ly M6 (some 58) rfl (yi_row 0 26 (.tmp 3) rfl rfl rfl rfl Try.underlying26 rfl (by kernel_rfl)) ?_
  try simp only [Act.put, List.setIfInBounds_toArray, List.set_cons_zero, List.set_cons_succ]
  refine ly M6 (some 59) rfl (yi_row 2 23 (.tmp 5) rfl rfl rfl rfl Try.underlying23 rfl (by kernel_rfl)) ?_
  try simp only [Act.put, List.setIfInBounds_toArray, List.set_cons_zero, List.set_cons_succ]
  refine l_call rfl (some 60) rfl (x1 _) (by kernel_rfl) (fun s7 hb7 => ?_)
  have M7 := M6.call hb7
  clear hb7 M6
  try simp only [Act.put, List.setIfInBounds_toArray, List.set_cons_zero, List.set_cons_succ]
  refine lv rfl (some 57) rfl (v := ?_) ?_ ?_
  rotate_left
  · go_simp; try with_reducible rfl
  try simp only [Act.put, List.setIfInBounds_toArray, List.set_cons_zero, List.set_cons_succ]
  refine lv rfl (some 61) rfl (v := ?_) ?_ ?_
  rotate_left
  · go_simp; try with_reducible rfl
  try simp only [Act.put, List.setIfInBounds_toArray, List.set_cons_zero, List.set_cons_succ]
  refine lv rfl (some 62) rfl (v := ?_) ?_ ?_
  rotate_left
  · go_simp; try with_reducible rfl
  try simp only [Act.put, List.setIfInBounds_toArray, List.set_cons_zero, List.set_cons_succ]
  refine l_alloc rfl (some 9) rfl #[.int .u8 0, .int .u8 0, .int .u8 0, .int .u8 0] 31 (by kernel_rfl) ?_
  have M8 := M7.new rfl 31 #[.int .u8 0, .int .u8 0, .int .u8 0, .int .u8 0]
  clear M7
  try simp only [List.cons_append, List.nil_append, List.set_cons_zero, List.set_cons_succ] at M8
  try simp only [Act.put, List.setIfInBounds_toArray, List.set_cons_zero, List.set_cons_succ]
  refine l_store M8 3 rfl 31 (.tmp 9) _ rfl rfl rfl rfl _ rfl (by kernel_rfl) (by rfl) (by kernel_rfl) _ rfl (fun s9 M9 => ?_)
  clear M8
  try simp only [List.cons_append, List.nil_append, List.set_cons_zero, List.set_cons_succ] at M9
  try simp only [Act.put, List.setIfInBounds_toArray, List.set_cons_zero, List.set_cons_succ]
  refine lv rfl (some 10) rfl (v := ?_) ?_ ?_
  rotate_left
  · go_simp; try with_reducible rfl
  try simp only [Act.put, List.setIfInBounds_toArray, List.set_cons_zero, List.set_cons_succ]
  refine wpList_nil ?_
  go_upto_region 12 with fail
  refine wp_region_lit ?_
  refine ly M9 (some 64) rfl (yi_row 1 26 (.tmp 4) rfl rfl rfl rfl Try.underlying26 rfl (by kernel_rfl)) ?_
  try simp only [Act.put, List.setIfInBounds_toArray, List.set_cons_zero, List.set_cons_succ]
  refine ly M9 (some 65) rfl (yi_row 2 23 (.tmp 5) rfl rfl rfl rfl Try.underlying23 rfl (by kernel_rfl)) ?_
  try simp only [Act.put, List.setIfInBounds_toArray, List.set_cons_zero, List.set_cons_succ]
  refine l_call rfl (some 66) rfl (x2 _) (by kernel_rfl) (fun s10 hb10 => ?_)
  have M10 := M9.call hb10
  clear hb10 M9
  try simp only [Act.put, List.setIfInBounds_toArray, List.set_cons_zero, List.set_cons_succ]
  refine lv rfl (some 63) rfl (v := ?_) ?_ ?_
  rotate_left
  · go_simp; try with_reducible rfl
  try simp only [Act.put, List.setIfInBounds_toArray, List.set_cons_zero, List.set_cons_succ]
  refine lv rfl (some 67) rfl (v := ?_) ?_ ?_
  rotate_left
  · go_simp; try with_reducible rfl
  try simp only [Act.put, List.setIfInBounds_toArray, List.set_cons_zero, List.set_cons_succ]
  refine lv rfl (some 68) rfl (v := ?_) ?_ ?_
  rotate_left
  · go_simp; try with_reducible rfl
  try simp only [Act.put, List.setIfInBounds_toArray, List.set_cons_zero, List.set_cons_succ]
  refine l_alloc rfl (some 11) rfl #[.int .u8 0, .int .u8 0, .int .u8 0, .int .u8 0] 31 (by kernel_rfl) ?_
  have M11 := M10.new rfl 31 #[.int .u8 0, .int .u8 0, .int .u8 0, .int .u8 0]
  clear M10
  try simp only [List.cons_append, List.nil_append, List.set_cons_zero, List.set_cons_succ] at M11
  try simp only [Act.put, List.setIfInBounds_toArray, List.set_cons_zero, List.set_cons_succ]
  refine l_store M11 4 rfl 31 (.tmp 11) _ rfl rfl rfl rfl _ rfl (by kernel_rfl) (by rfl) (by kernel_rfl) _ rfl (fun s12 M12 => ?_)
  clear M11
  try simp only [List.cons_append, List.nil_append, List.set_cons_zero, List.set_cons_succ] at M12
  try simp only [Act.put, List.setIfInBounds_toArray, List.set_cons_zero, List.set_cons_succ]
  refine lv rfl (some 12) rfl (v := ?_) ?_ ?_
  rotate_left
  · go_simp; try with_reducible rfl
  try simp only [Act.put, List.setIfInBounds_toArray, List.set_cons_zero, List.set_cons_succ]
  refine wpList_nil ?_
  go_upto_region 13 with fail
  refine wp_region_lit ?_
  refine lv rfl (some 69) rfl (v := ?_) ?_ ?_
  rotate_left
  · go_simp; try with_reducible rfl
  try simp only [Act.put, List.setIfInBounds_toArray, List.set_cons_zero, List.set_cons_succ]
  refine lv rfl (some 70) rfl (v := ?_) ?_ ?_
  rotate_left
  · go_simp; try with_reducible rfl
  try simp only [Act.put, List.setIfInBounds_toArray, List.set_cons_zero, List.set_cons_succ]
  refine lv rfl (some 71) rfl (v := ?_) ?_ ?_
  rotate_left
  · go_simp; try with_reducible rfl
  try simp only [Act.put, List.setIfInBounds_toArray, List.set_cons_zero, List.set_cons_succ]
  refine lv rfl (some 72) rfl (v := ?_) ?_ ?_
  rotate_left
  · go_simp; try with_reducible rfl
  try simp only [Act.put, List.setIfInBounds_toArray, List.set_cons_zero, List.set_cons_succ]
  refine lv rfl (some 73) rfl (v := ?_) ?_ ?_
  rotate_left
  · go_simp; try with_reducible rfl
  try simp only [Act.put, List.setIfInBounds_toArray, List.set_cons_zero, List.set_cons_succ]
  refine lv rfl (some 74) rfl (v := ?_) ?_ ?_
  rotate_left
  · go_simp; try with_reducible rfl
  try simp only [Act.put, List.setIfInBounds_toArray, List.set_cons_zero, List.set_cons_succ]
  refine lv rfl (some 75) rfl (v := ?_) ?_ ?_
  rotate_left
  · go_simp; try with_reducible rfl
  try simp only [Act.put, List.setIfInBounds_toArray, List.set_cons_zero, List.set_cons_succ]
  refine lv rfl (some 76) rfl (v := ?_) ?_ ?_
  rotate_left
  · go_simp; try with_reducible rfl
  try simp only [Act.put, List.setIfInBounds_toArray, List.set_cons_zero, List.set_cons_succ]
  refine lu rfl (some 77) rfl ?_
  try simp only [Act.put, List.setIfInBounds_toArray, List.set_cons_zero, List.set_cons_succ]
  refine lu rfl (some 78) rfl ?_
  try simp only [Act.put, List.setIfInBounds_toArray, List.set_cons_zero, List.set_cons_succ]
  refine lv rfl (some 79) rfl (v := ?_) ?_ ?_
  rotate_left
  · go_simp; try with_reducible rfl
  try simp only [Act.put, List.setIfInBounds_toArray, List.set_cons_zero, List.set_cons_succ]
  refine lv rfl (some 80) rfl (v := ?_) ?_ ?_
  rotate_left
  · go_simp; try with_reducible rfl
  try simp only [Act.put, List.setIfInBounds_toArray, List.set_cons_zero, List.set_cons_succ]
  refine lv rfl (some 81) rfl (v := ?_) ?_ ?_
  rotate_left
  · go_simp; try with_reducible rfl
  try simp only [Act.put, List.setIfInBounds_toArray, List.set_cons_zero, List.set_cons_succ]
  refine ly M12 (some 82) rfl (yi_row 0 26 (.tmp 3) rfl rfl rfl rfl Try.underlying26 rfl (by kernel_rfl)) ?_
  try simp only [Act.put, List.setIfInBounds_toArray, List.set_cons_zero, List.set_cons_succ]
  refine l_call rfl (some 83) rfl (r1 _) (by kernel_rfl) (fun s13 hb13 => ?_)
  have M13 := M12.call hb13
  clear hb13 M12
  try simp only [Act.put, List.setIfInBounds_toArray, List.set_cons_zero, List.set_cons_succ]
  refine lv rfl (some 84) rfl (v := ?_) ?_ ?_
  rotate_left
  · go_simp; try with_reducible rfl
  try simp only [Act.put, List.setIfInBounds_toArray, List.set_cons_zero, List.set_cons_succ]
  refine lv rfl (some 85) rfl (v := ?_) ?_ ?_
  rotate_left
  · go_simp; try with_reducible rfl
  try simp only [Act.put, List.setIfInBounds_toArray, List.set_cons_zero, List.set_cons_succ]
  refine ly M13 (some 86) rfl (yi_row 0 26 (.tmp 3) rfl rfl rfl rfl Try.underlying26 rfl (by kernel_rfl)) ?_
  try simp only [Act.put, List.setIfInBounds_toArray, List.set_cons_zero, List.set_cons_succ]
  refine lv rfl (some 87) rfl (v := ?_) ?_ ?_
  rotate_left
  · go_simp; try with_reducible rfl
  try simp only [Act.put, List.setIfInBounds_toArray, List.set_cons_zero, List.set_cons_succ]
  refine ly M13 (some 88) rfl (yi_part 0 23 (.tmp 87) rfl rfl rfl 0 rfl (a16 Q) Try.underlying23 rfl (by kernel_rfl) (by kernel_rfl)) ?_
  try simp only [Act.put, List.setIfInBounds_toArray, List.set_cons_zero, List.set_cons_succ]
  refine l_call rfl (some 89) rfl (i1 _) (by kernel_rfl) (fun s14 hb14 => ?_)
  have M14 := M13.call hb14
  clear hb14 M13
  try simp only [Act.put, List.setIfInBounds_toArray, List.set_cons_zero, List.set_cons_succ]
  refine lv rfl (some 90) rfl (v := ?_) ?_ ?_
  rotate_left
  · go_simp; try with_reducible rfl
  try simp only [Act.put, List.setIfInBounds_toArray, List.set_cons_zero, List.set_cons_succ]
  refine lv rfl (some 91) rfl (v := ?_) ?_ ?_
  rotate_left
  · go_simp; try with_reducible rfl
  try simp only [Act.put, List.setIfInBounds_toArray, List.set_cons_zero, List.set_cons_succ]
  refine lv rfl (some 6) rfl (v := ?_) ?_ ?_
  rotate_left
  · go_simp; try with_reducible rfl
  try simp only [Act.put, List.setIfInBounds_toArray, List.set_cons_zero, List.set_cons_succ]
  refine wpList_nil ?_
  go_wp2_with fail
  go_ret
  exact ⟨rfl, M14.below⟩
set_option maxRecDepth 100000 in
set_option maxHeartbeats 4000000 in
theorem apart_101n (P Q X : Nat → Int) (n m : Int) (w : World) (bp : Bytes 16 P) (bq : Bytes 16 Q) (bx : Bytes 16 X) (hl : m < n) (ha : ¬ InsideP Q X m) (hb : InsideP P X n) (hr : ¬ RightP Q m) : Calls Try.prog 8 #[net P n, net Q m, .agg (a16 X)] w fun e w' => e = .returned (.bool true) ∧ Below w.heap.size w w' := by
  have c1 := fun w => inside_n bq bx ha w
  have c2 := fun w => inside_t bp bx hb w
  obtain ⟨C, r, hC, x1⟩ := extract_ex m bq bx
  obtain ⟨D, s, hD, x2⟩ := extract_ex n bp bx
  obtain rfl : r = false := by cases r with | false => rfl | true => exact absurd (hC rfl) ha
  have r1 := fun w => right_f Q m w hr
  have ht : m < n := by omega
  clear bp bq bx ha hb hl hC hD hr
  go_enter Try.func8, Try.ntmps8
  go_upto_region 1 with fail
  have M0 := Mem.three w 26 26 23 #[.int .u8 (P 0), .int .u8 (P 1), .int .u8 (P 2), .int .u8 (P 3), .int .u8 (P 4), .int .u8 (P 5), .int .u8 (P 6), .int .u8 (P 7), .int .u8 (P 8), .int .u8 (P 9), .int .u8 (P 10), .int .u8 (P 11), .int .u8 (P 12), .int .u8 (P 13), .int .u8 (P 14), .int .u8 (P 15), .int .i64 n] #[.int .u8 (Q 0), .int .u8 (Q 1), .int .u8 (Q 2), .int .u8 (Q 3), .int .u8 (Q 4), .int .u8 (Q 5), .int .u8 (Q 6), .int .u8 (Q 7), .int .u8 (Q 8), .int .u8 (Q 9), .int .u8 (Q 10), .int .u8 (Q 11), .int .u8 (Q 12), .int .u8 (Q 13), .int .u8 (Q 14), .int .u8 (Q 15), .int .i64 m] (a16 X)
  refine wp_region_lit ?_
  refine l_call rfl (some 13) rfl (awake_any _) (by kernel_rfl) (fun s1 hb1 => ?_)
  have M1 := M0.call hb1
  clear hb1 M0
  try simp only [Act.put, List.setIfInBounds_toArray, List.set_cons_zero, List.set_cons_succ]
  refine lv rfl (some 14) rfl (v := ?_) ?_ ?_
  rotate_left
  · go_simp; try with_reducible rfl
  try simp only [Act.put, List.setIfInBounds_toArray, List.set_cons_zero, List.set_cons_succ]
  refine wpList_nil ?_
  go_upto_region 3 with fail
  refine wp_region_held_drew (S := fun w' => Mem w w' _) (by kernel_rfl) M1.drew (fun _ => ?_)
  have M2 := M1.drew
  refine tk (i := 0) rfl (some 15) rfl (by kernel_rfl) (by kernel_rfl) (by kernel_rfl) (fun _ _ _ h => h) (yi_row 0 26 (.tmp 3) rfl rfl rfl rfl Try.underlying26 rfl (by kernel_rfl)) M2 ?_
  try simp only [Act.put, List.setIfInBounds_toArray, List.set_cons_zero, List.set_cons_succ]
  refine tk (i := 1) rfl (some 16) rfl (by kernel_rfl) (by kernel_rfl) (by kernel_rfl) (fun _ _ _ h => h) (yi_row 2 23 (.tmp 5) rfl rfl rfl rfl Try.underlying23 rfl (by kernel_rfl)) M2 ?_
  try simp only [Act.put, List.setIfInBounds_toArray, List.set_cons_zero, List.set_cons_succ]
  refine tk (i := 3) rfl (some 18) rfl (by kernel_rfl) (by kernel_rfl) (by kernel_rfl) (fun _ _ _ h => h) (yi_row 1 26 (.tmp 4) rfl rfl rfl rfl Try.underlying26 rfl (by kernel_rfl)) M2 ?_
  try simp only [Act.put, List.setIfInBounds_toArray, List.set_cons_zero, List.set_cons_succ]
  refine tk (i := 4) rfl (some 19) rfl (by kernel_rfl) (by kernel_rfl) (by kernel_rfl) (fun _ _ _ h => h) (yi_row 2 23 (.tmp 5) rfl rfl rfl rfl Try.underlying23 rfl (by kernel_rfl)) M2 ?_
  try simp only [Act.put, List.setIfInBounds_toArray, List.set_cons_zero, List.set_cons_succ]
  refine wpAnyH_ready (rs := [2]) (by kernel_rfl) (by simp) ?_
  refine br_call rfl rfl (some 17) rfl (c2 _) (by kernel_rfl) (fun w' hb => M2.call hb) (fun s3 hb3 => ?_) AllReadyH.nil
  have M3 := M2.call hb3
  clear hb3 M2
  try simp only [Act.put, List.setIfInBounds_toArray, List.set_cons_zero, List.set_cons_succ]
  refine wpAnyH_ready (rs := [5]) (by kernel_rfl) (by simp) ?_
  refine br_call rfl rfl (some 20) rfl (c1 _) (by kernel_rfl) (fun w' hb => M3.call hb) (fun s4 hb4 => ?_) AllReadyH.nil
  have M4 := M3.call hb4
  clear hb4 M3
  try simp only [Act.put, List.setIfInBounds_toArray, List.set_cons_zero, List.set_cons_succ]
  refine tk (i := 6) (v := ?_) rfl (some 7) rfl (by kernel_rfl) (by kernel_rfl) (by kernel_rfl) (fun _ _ _ h => h) (Or.inl ⟨by rfl, ?_⟩) M4 ?_
  rotate_left
  · intro w hS; go_simp; try with_reducible rfl
  try simp only [Act.put, List.setIfInBounds_toArray, List.set_cons_zero, List.set_cons_succ]
  refine tk (i := 7) (v := ?_) rfl (some 8) rfl (by kernel_rfl) (by kernel_rfl) (by kernel_rfl) (fun _ _ _ h => h) (Or.inl ⟨by rfl, ?_⟩) M4 ?_
  rotate_left
  · intro w hS; go_simp; try with_reducible rfl
  try simp only [Act.put, List.setIfInBounds_toArray, List.set_cons_zero, List.set_cons_succ]
  refine wpAnyH_done (by kernel_rfl) ?_ _
  go_upto_region 4 with fail
  refine wp_region_lit ?_
  refine lv rfl (some 21) rfl (v := ?_) ?_ ?_
  rotate_left
  · go_simp; try with_reducible rfl
  try simp only [Act.put, List.setIfInBounds_toArray, List.set_cons_zero, List.set_cons_succ]
  refine ly M4 (some 22) rfl (yi_cell 0 3 (.tmp 21) rfl rfl rfl _ rfl _ Try.underlying3 rfl) ?_
  try simp only [Act.put, List.setIfInBounds_toArray, List.set_cons_zero, List.set_cons_succ]
  refine lv rfl (some 23) rfl (v := ?_) ?_ ?_
  rotate_left
  · go_simp; try with_reducible rfl
  try simp only [Act.put, List.setIfInBounds_toArray, List.set_cons_zero, List.set_cons_succ]
  refine ly M4 (some 24) rfl (yi_cell 1 3 (.tmp 23) rfl rfl rfl _ rfl _ Try.underlying3 rfl) ?_
  try simp only [Act.put, List.setIfInBounds_toArray, List.set_cons_zero, List.set_cons_succ]
  refine lv rfl (some 25) rfl (v := ?_) ?_ ?_
  rotate_left
  · go_simp; try with_reducible rfl
  try simp only [Act.put, List.setIfInBounds_toArray, List.set_cons_zero, List.set_cons_succ]
  refine wpList_nil ?_
  go_upto_region 5 with fail
  refine wp_region_lit ?_
  refine ly M4 (some 26) rfl (yi_row 1 26 (.tmp 4) rfl rfl rfl rfl Try.underlying26 rfl (by kernel_rfl)) ?_
  try simp only [Act.put, List.setIfInBounds_toArray, List.set_cons_zero, List.set_cons_succ]
  refine ly M4 (some 27) rfl (yi_row 0 26 (.tmp 3) rfl rfl rfl rfl Try.underlying26 rfl (by kernel_rfl)) ?_
  try simp only [Act.put, List.setIfInBounds_toArray, List.set_cons_zero, List.set_cons_succ]
  refine l_store M4 0 rfl 26 (.tmp 3) _ rfl rfl rfl rfl _ rfl (by kernel_rfl) (by rfl) (by kernel_rfl) _ rfl (fun s5 M5 => ?_)
  clear M4
  try simp only [List.cons_append, List.nil_append, List.set_cons_zero, List.set_cons_succ] at M5
  try simp only [Act.put, List.setIfInBounds_toArray, List.set_cons_zero, List.set_cons_succ]
  refine l_store M5 1 rfl 26 (.tmp 4) _ rfl rfl rfl rfl _ rfl (by kernel_rfl) (by rfl) (by kernel_rfl) _ rfl (fun s6 M6 => ?_)
  clear M5
  try simp only [List.cons_append, List.nil_append, List.set_cons_zero, List.set_cons_succ] at M6
  try simp only [Act.put, List.setIfInBounds_toArray, List.set_cons_zero, List.set_cons_succ]
  refine wpList_nil ?_
  go_upto_region 6 with fail
  refine wp_region_lit ?_
  refine lv rfl (some 28) rfl (v := ?_) ?_ ?_
  rotate_left
  · go_simp; try with_reducible rfl
  try simp only [Act.put, List.setIfInBounds_toArray, List.set_cons_zero, List.set_cons_succ]
  refine lv rfl (some 29) rfl (v := ?_) ?_ ?_
  rotate_left
  · go_simp; try with_reducible rfl
  try simp only [Act.put, List.setIfInBounds_toArray, List.set_cons_zero, List.set_cons_succ]
  refine lv rfl (some 7) rfl (v := ?_) ?_ ?_
  rotate_left
  · go_simp; try with_reducible rfl
  try simp only [Act.put, List.setIfInBounds_toArray, List.set_cons_zero, List.set_cons_succ]
  refine lv rfl (some 8) rfl (v := ?_) ?_ ?_
  rotate_left
  · go_simp; try with_reducible rfl
  try simp only [Act.put, List.setIfInBounds_toArray, List.set_cons_zero, List.set_cons_succ]
  refine wpList_nil ?_
  go_upto_region 7 with fail
  refine wp_region_lit ?_
  refine lv rfl (some 30) rfl (v := ?_) ?_ ?_
  rotate_left
  · go_simp; try with_reducible rfl
  try simp only [Act.put, List.setIfInBounds_toArray, List.set_cons_zero, List.set_cons_succ]
  refine lv rfl (some 31) rfl (v := ?_) ?_ ?_
  rotate_left
  · go_simp; try with_reducible rfl
  try simp only [Act.put, List.setIfInBounds_toArray, List.set_cons_zero, List.set_cons_succ]
  refine lu rfl (some 32) rfl ?_
  try simp only [Act.put, List.setIfInBounds_toArray, List.set_cons_zero, List.set_cons_succ]
  refine lv rfl (some 33) rfl (v := ?_) ?_ ?_
  rotate_left
  · go_simp; try with_reducible rfl
  try simp only [Act.put, List.setIfInBounds_toArray, List.set_cons_zero, List.set_cons_succ]
  refine lv rfl (some 34) rfl (v := ?_) ?_ ?_
  rotate_left
  · go_simp; try with_reducible rfl
  try simp only [Act.put, List.setIfInBounds_toArray, List.set_cons_zero, List.set_cons_succ]
  refine lu rfl (some 35) rfl ?_
  try simp only [Act.put, List.setIfInBounds_toArray, List.set_cons_zero, List.set_cons_succ]
  refine lu rfl (some 36) rfl ?_
  try simp only [Act.put, List.setIfInBounds_toArray, List.set_cons_zero, List.set_cons_succ]
  refine lu rfl (some 37) rfl ?_
  try simp only [Act.put, List.setIfInBounds_toArray, List.set_cons_zero, List.set_cons_succ]
  refine lu rfl (some 38) rfl ?_
  try simp only [Act.put, List.setIfInBounds_toArray, List.set_cons_zero, List.set_cons_succ]
  refine lu rfl (some 39) rfl ?_
  try simp only [Act.put, List.setIfInBounds_toArray, List.set_cons_zero, List.set_cons_succ]
  refine lv rfl (some 40) rfl (v := ?_) ?_ ?_
  rotate_left
  · go_simp; try with_reducible rfl
  try simp only [Act.put, List.setIfInBounds_toArray, List.set_cons_zero, List.set_cons_succ]
  refine wpList_nil ?_
  go_upto_region 9 with fail
  refine wp_region_lit ?_
  refine lv rfl (some 41) rfl (v := ?_) ?_ ?_
  rotate_left
  · go_simp; try with_reducible rfl
  try simp only [Act.put, List.setIfInBounds_toArray, List.set_cons_zero, List.set_cons_succ]
  refine lv rfl (some 42) rfl (v := ?_) ?_ ?_
  rotate_left
  · go_simp; try with_reducible rfl
  try simp only [Act.put, List.setIfInBounds_toArray, List.set_cons_zero, List.set_cons_succ]
  refine lu rfl (some 43) rfl ?_
  try simp only [Act.put, List.setIfInBounds_toArray, List.set_cons_zero, List.set_cons_succ]
  refine lv rfl (some 44) rfl (v := ?_) ?_ ?_
  rotate_left
  · go_simp; try with_reducible rfl
  try simp only [Act.put, List.setIfInBounds_toArray, List.set_cons_zero, List.set_cons_succ]
  refine lv rfl (some 45) rfl (v := ?_) ?_ ?_
  rotate_left
  · go_simp; try with_reducible rfl
  try simp only [Act.put, List.setIfInBounds_toArray, List.set_cons_zero, List.set_cons_succ]
  refine lu rfl (some 46) rfl ?_
  try simp only [Act.put, List.setIfInBounds_toArray, List.set_cons_zero, List.set_cons_succ]
  refine lu rfl (some 47) rfl ?_
  try simp only [Act.put, List.setIfInBounds_toArray, List.set_cons_zero, List.set_cons_succ]
  refine lu rfl (some 48) rfl ?_
  try simp only [Act.put, List.setIfInBounds_toArray, List.set_cons_zero, List.set_cons_succ]
  refine lu rfl (some 49) rfl ?_
  try simp only [Act.put, List.setIfInBounds_toArray, List.set_cons_zero, List.set_cons_succ]
  refine lu rfl (some 50) rfl ?_
  try simp only [Act.put, List.setIfInBounds_toArray, List.set_cons_zero, List.set_cons_succ]
  refine lv rfl (some 51) rfl (v := ?_) ?_ ?_
  rotate_left
  · go_simp; try with_reducible rfl
  try simp only [Act.put, List.setIfInBounds_toArray, List.set_cons_zero, List.set_cons_succ]
  refine lv rfl (some 52) rfl (v := ?_) ?_ ?_
  rotate_left
  · go_simp; try with_reducible rfl
  try simp only [Act.put, List.setIfInBounds_toArray, List.set_cons_zero, List.set_cons_succ]
  refine lu rfl (some 53) rfl ?_
  try simp only [Act.put, List.setIfInBounds_toArray, List.set_cons_zero, List.set_cons_succ]
  refine lu rfl (some 54) rfl ?_
  try simp only [Act.put, List.setIfInBounds_toArray, List.set_cons_zero, List.set_cons_succ]
  refine lu rfl (some 55) rfl ?_
  try simp only [Act.put, List.setIfInBounds_toArray, List.set_cons_zero, List.set_cons_succ]
  refine lv rfl (some 56) rfl (v := ?_) ?_ ?_
  rotate_left
  · go_simp; try with_reducible rfl
  try simp only [Act.put, List.setIfInBounds_toArray, List.set_cons_zero, List.set_cons_succ]
  refine wpList_nil ?_
  go_upto_region 11 with fail
  refine wp_region_lit ?_
  refine ly M6 (some 58) rfl (yi_row 0 26 (.tmp 3) rfl rfl rfl rfl Try.underlying26 rfl (by kernel_rfl)) ?_
  try simp only [Act.put, List.setIfInBounds_toArray, List.set_cons_zero, List.set_cons_succ]
  refine ly M6 (some 59) rfl (yi_row 2 23 (.tmp 5) rfl rfl rfl rfl Try.underlying23 rfl (by kernel_rfl)) ?_
  try simp only [Act.put, List.setIfInBounds_toArray, List.set_cons_zero, List.set_cons_succ]
  refine l_call rfl (some 60) rfl (x1 _) (by kernel_rfl) (fun s7 hb7 => ?_)
  have M7 := M6.call hb7
  clear hb7 M6
  try simp only [Act.put, List.setIfInBounds_toArray, List.set_cons_zero, List.set_cons_succ]
  refine lv rfl (some 57) rfl (v := ?_) ?_ ?_
  rotate_left
  · go_simp; try with_reducible rfl
  try simp only [Act.put, List.setIfInBounds_toArray, List.set_cons_zero, List.set_cons_succ]
  refine lv rfl (some 61) rfl (v := ?_) ?_ ?_
  rotate_left
  · go_simp; try with_reducible rfl
  try simp only [Act.put, List.setIfInBounds_toArray, List.set_cons_zero, List.set_cons_succ]
  refine lv rfl (some 62) rfl (v := ?_) ?_ ?_
  rotate_left
  · go_simp; try with_reducible rfl
  try simp only [Act.put, List.setIfInBounds_toArray, List.set_cons_zero, List.set_cons_succ]
  refine l_alloc rfl (some 9) rfl #[.int .u8 0, .int .u8 0, .int .u8 0, .int .u8 0] 31 (by kernel_rfl) ?_
  have M8 := M7.new rfl 31 #[.int .u8 0, .int .u8 0, .int .u8 0, .int .u8 0]
  clear M7
  try simp only [List.cons_append, List.nil_append, List.set_cons_zero, List.set_cons_succ] at M8
  try simp only [Act.put, List.setIfInBounds_toArray, List.set_cons_zero, List.set_cons_succ]
  refine l_store M8 3 rfl 31 (.tmp 9) _ rfl rfl rfl rfl _ rfl (by kernel_rfl) (by rfl) (by kernel_rfl) _ rfl (fun s9 M9 => ?_)
  clear M8
  try simp only [List.cons_append, List.nil_append, List.set_cons_zero, List.set_cons_succ] at M9
  try simp only [Act.put, List.setIfInBounds_toArray, List.set_cons_zero, List.set_cons_succ]
  refine lv rfl (some 10) rfl (v := ?_) ?_ ?_
  rotate_left
  · go_simp; try with_reducible rfl
  try simp only [Act.put, List.setIfInBounds_toArray, List.set_cons_zero, List.set_cons_succ]
  refine wpList_nil ?_
  go_upto_region 12 with fail
  refine wp_region_lit ?_
  refine ly M9 (some 64) rfl (yi_row 1 26 (.tmp 4) rfl rfl rfl rfl Try.underlying26 rfl (by kernel_rfl)) ?_
  try simp only [Act.put, List.setIfInBounds_toArray, List.set_cons_zero, List.set_cons_succ]
  refine ly M9 (some 65) rfl (yi_row 2 23 (.tmp 5) rfl rfl rfl rfl Try.underlying23 rfl (by kernel_rfl)) ?_
  try simp only [Act.put, List.setIfInBounds_toArray, List.set_cons_zero, List.set_cons_succ]
  refine l_call rfl (some 66) rfl (x2 _) (by kernel_rfl) (fun s10 hb10 => ?_)
  have M10 := M9.call hb10
  clear hb10 M9
  try simp only [Act.put, List.setIfInBounds_toArray, List.set_cons_zero, List.set_cons_succ]
  refine lv rfl (some 63) rfl (v := ?_) ?_ ?_
  rotate_left
  · go_simp; try with_reducible rfl
  try simp only [Act.put, List.setIfInBounds_toArray, List.set_cons_zero, List.set_cons_succ]
  refine lv rfl (some 67) rfl (v := ?_) ?_ ?_
  rotate_left
  · go_simp; try with_reducible rfl
  try simp only [Act.put, List.setIfInBounds_toArray, List.set_cons_zero, List.set_cons_succ]
  refine lv rfl (some 68) rfl (v := ?_) ?_ ?_
  rotate_left
  · go_simp; try with_reducible rfl
  try simp only [Act.put, List.setIfInBounds_toArray, List.set_cons_zero, List.set_cons_succ]
  refine l_alloc rfl (some 11) rfl #[.int .u8 0, .int .u8 0, .int .u8 0, .int .u8 0] 31 (by kernel_rfl) ?_
  have M11 := M10.new rfl 31 #[.int .u8 0, .int .u8 0, .int .u8 0, .int .u8 0]
  clear M10
  try simp only [List.cons_append, List.nil_append, List.set_cons_zero, List.set_cons_succ] at M11
  try simp only [Act.put, List.setIfInBounds_toArray, List.set_cons_zero, List.set_cons_succ]
  refine l_store M11 4 rfl 31 (.tmp 11) _ rfl rfl rfl rfl _ rfl (by kernel_rfl) (by rfl) (by kernel_rfl) _ rfl (fun s12 M12 => ?_)
  clear M11
  try simp only [List.cons_append, List.nil_append, List.set_cons_zero, List.set_cons_succ] at M12
  try simp only [Act.put, List.setIfInBounds_toArray, List.set_cons_zero, List.set_cons_succ]
  refine lv rfl (some 12) rfl (v := ?_) ?_ ?_
  rotate_left
  · go_simp; try with_reducible rfl
  try simp only [Act.put, List.setIfInBounds_toArray, List.set_cons_zero, List.set_cons_succ]
  refine wpList_nil ?_
  go_upto_region 13 with fail
  refine wp_region_lit ?_
  refine lv rfl (some 69) rfl (v := ?_) ?_ ?_
  rotate_left
  · go_simp; try with_reducible rfl
  try simp only [Act.put, List.setIfInBounds_toArray, List.set_cons_zero, List.set_cons_succ]
  refine lv rfl (some 70) rfl (v := ?_) ?_ ?_
  rotate_left
  · go_simp; try with_reducible rfl
  try simp only [Act.put, List.setIfInBounds_toArray, List.set_cons_zero, List.set_cons_succ]
  refine lv rfl (some 71) rfl (v := ?_) ?_ ?_
  rotate_left
  · go_simp; try with_reducible rfl
  try simp only [Act.put, List.setIfInBounds_toArray, List.set_cons_zero, List.set_cons_succ]
  refine lv rfl (some 72) rfl (v := ?_) ?_ ?_
  rotate_left
  · go_simp; try with_reducible rfl
  try simp only [Act.put, List.setIfInBounds_toArray, List.set_cons_zero, List.set_cons_succ]
  refine lv rfl (some 73) rfl (v := ?_) ?_ ?_
  rotate_left
  · go_simp; try with_reducible rfl
  try simp only [Act.put, List.setIfInBounds_toArray, List.set_cons_zero, List.set_cons_succ]
  refine lv rfl (some 74) rfl (v := ?_) ?_ ?_
  rotate_left
  · go_simp; try with_reducible rfl
  try simp only [Act.put, List.setIfInBounds_toArray, List.set_cons_zero, List.set_cons_succ]
  refine lv rfl (some 75) rfl (v := ?_) ?_ ?_
  rotate_left
  · go_simp; try with_reducible rfl
  try simp only [Act.put, List.setIfInBounds_toArray, List.set_cons_zero, List.set_cons_succ]
  refine lv rfl (some 76) rfl (v := ?_) ?_ ?_
  rotate_left
  · go_simp; try with_reducible rfl
  try simp only [Act.put, List.setIfInBounds_toArray, List.set_cons_zero, List.set_cons_succ]
  refine lu rfl (some 77) rfl ?_
  try simp only [Act.put, List.setIfInBounds_toArray, List.set_cons_zero, List.set_cons_succ]
  refine lu rfl (some 78) rfl ?_
  try simp only [Act.put, List.setIfInBounds_toArray, List.set_cons_zero, List.set_cons_succ]
  refine lv rfl (some 79) rfl (v := ?_) ?_ ?_
  rotate_left
  · go_simp; try with_reducible rfl
  try simp only [Act.put, List.setIfInBounds_toArray, List.set_cons_zero, List.set_cons_succ]
  refine lv rfl (some 80) rfl (v := ?_) ?_ ?_
  rotate_left
  · go_simp; try with_reducible rfl
  try simp only [Act.put, List.setIfInBounds_toArray, List.set_cons_zero, List.set_cons_succ]
  refine lv rfl (some 81) rfl (v := ?_) ?_ ?_
  rotate_left
  · go_simp; try with_reducible rfl
  try simp only [Act.put, List.setIfInBounds_toArray, List.set_cons_zero, List.set_cons_succ]
  refine ly M12 (some 82) rfl (yi_row 0 26 (.tmp 3) rfl rfl rfl rfl Try.underlying26 rfl (by kernel_rfl)) ?_
  try simp only [Act.put, List.setIfInBounds_toArray, List.set_cons_zero, List.set_cons_succ]
  refine l_call rfl (some 83) rfl (r1 _) (by kernel_rfl) (fun s13 hb13 => ?_)
  have M13 := M12.call hb13
  clear hb13 M12
  try simp only [Act.put, List.setIfInBounds_toArray, List.set_cons_zero, List.set_cons_succ]
  refine lv rfl (some 84) rfl (v := ?_) ?_ ?_
  rotate_left
  · go_simp; try with_reducible rfl
  try simp only [Act.put, List.setIfInBounds_toArray, List.set_cons_zero, List.set_cons_succ]
  refine lv rfl (some 85) rfl (v := ?_) ?_ ?_
  rotate_left
  · go_simp; try with_reducible rfl
  try simp only [Act.put, List.setIfInBounds_toArray, List.set_cons_zero, List.set_cons_succ]
  refine lu rfl (some 86) rfl ?_
  try simp only [Act.put, List.setIfInBounds_toArray, List.set_cons_zero, List.set_cons_succ]
  refine lu rfl (some 87) rfl ?_
  try simp only [Act.put, List.setIfInBounds_toArray, List.set_cons_zero, List.set_cons_succ]
  refine lu rfl (some 88) rfl ?_
  try simp only [Act.put, List.setIfInBounds_toArray, List.set_cons_zero, List.set_cons_succ]
  refine lu rfl (some 89) rfl ?_
  try simp only [Act.put, List.setIfInBounds_toArray, List.set_cons_zero, List.set_cons_succ]
  refine lv rfl (some 90) rfl (v := ?_) ?_ ?_
  rotate_left
  · go_simp; try with_reducible rfl
  try simp only [Act.put, List.setIfInBounds_toArray, List.set_cons_zero, List.set_cons_succ]
  refine lv rfl (some 91) rfl (v := ?_) ?_ ?_
  rotate_left
  · go_simp; try with_reducible rfl
  try simp only [Act.put, List.setIfInBounds_toArray, List.set_cons_zero, List.set_cons_succ]
  refine lv rfl (some 6) rfl (v := ?_) ?_ ?_
  rotate_left
  · go_simp; try with_reducible rfl
  try simp only [Act.put, List.setIfInBounds_toArray, List.set_cons_zero, List.set_cons_succ]
  refine wpList_nil ?_
  go_wp2_with fail
  go_ret
  exact ⟨rfl, M13.below⟩
set_option maxRecDepth 100000 in
set_option maxHeartbeats 4000000 in
theorem apart_100r (P Q X : Nat → Int) (n m : Int) (w : World) (bp : Bytes 16 P) (bq : Bytes 16 Q) (bx : Bytes 16 X) (hl : m < n) (ha : ¬ InsideP Q X m) (hb : ¬ InsideP P X n) (hr : RightP Q m) : Calls Try.prog 8 #[net P n, net Q m, .agg (a16 X)] w fun e w' => e = .returned (.bool true) ∧ Below w.heap.size w w' := by
  have c1 := fun w => inside_n bq bx ha w
  have c2 := fun w => inside_n bp bx hb w
  obtain ⟨C, r, hC, x1⟩ := extract_ex m bq bx
  obtain ⟨D, s, hD, x2⟩ := extract_ex n bp bx
  obtain rfl : r = false := by cases r with | false => rfl | true => exact absurd (hC rfl) ha
  obtain rfl : s = false := by cases s with | false => rfl | true => exact absurd (hD rfl) hb
  have r1 := fun w => right_t Q m w hr
  have i1 := fun w => inside_t bq bq (inside_self hr) w
  have ht : m < n := by omega
  clear bp bq bx ha hb hl hC hD hr
  go_enter Try.func8, Try.ntmps8
  go_upto_region 1 with fail
  have M0 := Mem.three w 26 26 23 #[.int .u8 (P 0), .int .u8 (P 1), .int .u8 (P 2), .int .u8 (P 3), .int .u8 (P 4), .int .u8 (P 5), .int .u8 (P 6), .int .u8 (P 7), .int .u8 (P 8), .int .u8 (P 9), .int .u8 (P 10), .int .u8 (P 11), .int .u8 (P 12), .int .u8 (P 13), .int .u8 (P 14), .int .u8 (P 15), .int .i64 n] #[.int .u8 (Q 0), .int .u8 (Q 1), .int .u8 (Q 2), .int .u8 (Q 3), .int .u8 (Q 4), .int .u8 (Q 5), .int .u8 (Q 6), .int .u8 (Q 7), .int .u8 (Q 8), .int .u8 (Q 9), .int .u8 (Q 10), .int .u8 (Q 11), .int .u8 (Q 12), .int .u8 (Q 13), .int .u8 (Q 14), .int .u8 (Q 15), .int .i64 m] (a16 X)
  refine wp_region_lit ?_
  refine l_call rfl (some 13) rfl (awake_any _) (by kernel_rfl) (fun s1 hb1 => ?_)
  have M1 := M0.call hb1
  clear hb1 M0
  try simp only [Act.put, List.setIfInBounds_toArray, List.set_cons_zero, List.set_cons_succ]
  refine lv rfl (some 14) rfl (v := ?_) ?_ ?_
  rotate_left
  · go_simp; try with_reducible rfl
  try simp only [Act.put, List.setIfInBounds_toArray, List.set_cons_zero, List.set_cons_succ]
  refine wpList_nil ?_
  go_upto_region 3 with fail
  refine wp_region_held_drew (S := fun w' => Mem w w' _) (by kernel_rfl) M1.drew (fun _ => ?_)
  have M2 := M1.drew
  refine tk (i := 0) rfl (some 15) rfl (by kernel_rfl) (by kernel_rfl) (by kernel_rfl) (fun _ _ _ h => h) (yi_row 0 26 (.tmp 3) rfl rfl rfl rfl Try.underlying26 rfl (by kernel_rfl)) M2 ?_
  try simp only [Act.put, List.setIfInBounds_toArray, List.set_cons_zero, List.set_cons_succ]
  refine tk (i := 1) rfl (some 16) rfl (by kernel_rfl) (by kernel_rfl) (by kernel_rfl) (fun _ _ _ h => h) (yi_row 2 23 (.tmp 5) rfl rfl rfl rfl Try.underlying23 rfl (by kernel_rfl)) M2 ?_
  try simp only [Act.put, List.setIfInBounds_toArray, List.set_cons_zero, List.set_cons_succ]
  refine tk (i := 3) rfl (some 18) rfl (by kernel_rfl) (by kernel_rfl) (by kernel_rfl) (fun _ _ _ h => h) (yi_row 1 26 (.tmp 4) rfl rfl rfl rfl Try.underlying26 rfl (by kernel_rfl)) M2 ?_
  try simp only [Act.put, List.setIfInBounds_toArray, List.set_cons_zero, List.set_cons_succ]
  refine tk (i := 4) rfl (some 19) rfl (by kernel_rfl) (by kernel_rfl) (by kernel_rfl) (fun _ _ _ h => h) (yi_row 2 23 (.tmp 5) rfl rfl rfl rfl Try.underlying23 rfl (by kernel_rfl)) M2 ?_
  try simp only [Act.put, List.setIfInBounds_toArray, List.set_cons_zero, List.set_cons_succ]
  refine wpAnyH_ready (rs := [2]) (by kernel_rfl) (by simp) ?_
  refine br_call rfl rfl (some 17) rfl (c2 _) (by kernel_rfl) (fun w' hb => M2.call hb) (fun s3 hb3 => ?_) AllReadyH.nil
  have M3 := M2.call hb3
  clear hb3 M2
  try simp only [Act.put, List.setIfInBounds_toArray, List.set_cons_zero, List.set_cons_succ]
  refine wpAnyH_ready (rs := [5]) (by kernel_rfl) (by simp) ?_
  refine br_call rfl rfl (some 20) rfl (c1 _) (by kernel_rfl) (fun w' hb => M3.call hb) (fun s4 hb4 => ?_) AllReadyH.nil
  have M4 := M3.call hb4
  clear hb4 M3
  try simp only [Act.put, List.setIfInBounds_toArray, List.set_cons_zero, List.set_cons_succ]
  refine tk (i := 6) (v := ?_) rfl (some 7) rfl (by kernel_rfl) (by kernel_rfl) (by kernel_rfl) (fun _ _ _ h => h) (Or.inl ⟨by rfl, ?_⟩) M4 ?_
  rotate_left
  · intro w hS; go_simp; try with_reducible rfl
  try simp only [Act.put, List.setIfInBounds_toArray, List.set_cons_zero, List.set_cons_succ]
  refine tk (i := 7) (v := ?_) rfl (some 8) rfl (by kernel_rfl) (by kernel_rfl) (by kernel_rfl) (fun _ _ _ h => h) (Or.inl ⟨by rfl, ?_⟩) M4 ?_
  rotate_left
  · intro w hS; go_simp; try with_reducible rfl
  try simp only [Act.put, List.setIfInBounds_toArray, List.set_cons_zero, List.set_cons_succ]
  refine wpAnyH_done (by kernel_rfl) ?_ _
  go_upto_region 4 with fail
  refine wp_region_lit ?_
  refine lv rfl (some 21) rfl (v := ?_) ?_ ?_
  rotate_left
  · go_simp; try with_reducible rfl
  try simp only [Act.put, List.setIfInBounds_toArray, List.set_cons_zero, List.set_cons_succ]
  refine ly M4 (some 22) rfl (yi_cell 0 3 (.tmp 21) rfl rfl rfl _ rfl _ Try.underlying3 rfl) ?_
  try simp only [Act.put, List.setIfInBounds_toArray, List.set_cons_zero, List.set_cons_succ]
  refine lv rfl (some 23) rfl (v := ?_) ?_ ?_
  rotate_left
  · go_simp; try with_reducible rfl
  try simp only [Act.put, List.setIfInBounds_toArray, List.set_cons_zero, List.set_cons_succ]
  refine ly M4 (some 24) rfl (yi_cell 1 3 (.tmp 23) rfl rfl rfl _ rfl _ Try.underlying3 rfl) ?_
  try simp only [Act.put, List.setIfInBounds_toArray, List.set_cons_zero, List.set_cons_succ]
  refine lv rfl (some 25) rfl (v := ?_) ?_ ?_
  rotate_left
  · go_simp; try with_reducible rfl
  try simp only [Act.put, List.setIfInBounds_toArray, List.set_cons_zero, List.set_cons_succ]
  refine wpList_nil ?_
  go_upto_region 5 with fail
  refine wp_region_lit ?_
  refine ly M4 (some 26) rfl (yi_row 1 26 (.tmp 4) rfl rfl rfl rfl Try.underlying26 rfl (by kernel_rfl)) ?_
  try simp only [Act.put, List.setIfInBounds_toArray, List.set_cons_zero, List.set_cons_succ]
  refine ly M4 (some 27) rfl (yi_row 0 26 (.tmp 3) rfl rfl rfl rfl Try.underlying26 rfl (by kernel_rfl)) ?_
  try simp only [Act.put, List.setIfInBounds_toArray, List.set_cons_zero, List.set_cons_succ]
  refine l_store M4 0 rfl 26 (.tmp 3) _ rfl rfl rfl rfl _ rfl (by kernel_rfl) (by rfl) (by kernel_rfl) _ rfl (fun s5 M5 => ?_)
  clear M4
  try simp only [List.cons_append, List.nil_append, List.set_cons_zero, List.set_cons_succ] at M5
  try simp only [Act.put, List.setIfInBounds_toArray, List.set_cons_zero, List.set_cons_succ]
  refine l_store M5 1 rfl 26 (.tmp 4) _ rfl rfl rfl rfl _ rfl (by kernel_rfl) (by rfl) (by kernel_rfl) _ rfl (fun s6 M6 => ?_)
  clear M5
  try simp only [List.cons_append, List.nil_append, List.set_cons_zero, List.set_cons_succ] at M6
  try simp only [Act.put, List.setIfInBounds_toArray, List.set_cons_zero, List.set_cons_succ]
  refine wpList_nil ?_
  go_upto_region 6 with fail
  refine wp_region_lit ?_
  refine lv rfl (some 28) rfl (v := ?_) ?_ ?_
  rotate_left
  · go_simp; try with_reducible rfl
  try simp only [Act.put, List.setIfInBounds_toArray, List.set_cons_zero, List.set_cons_succ]
  refine lv rfl (some 29) rfl (v := ?_) ?_ ?_
  rotate_left
  · go_simp; try with_reducible rfl
  try simp only [Act.put, List.setIfInBounds_toArray, List.set_cons_zero, List.set_cons_succ]
  refine lv rfl (some 7) rfl (v := ?_) ?_ ?_
  rotate_left
  · go_simp; try with_reducible rfl
  try simp only [Act.put, List.setIfInBounds_toArray, List.set_cons_zero, List.set_cons_succ]
  refine lv rfl (some 8) rfl (v := ?_) ?_ ?_
  rotate_left
  · go_simp; try with_reducible rfl
  try simp only [Act.put, List.setIfInBounds_toArray, List.set_cons_zero, List.set_cons_succ]
  refine wpList_nil ?_
  go_upto_region 7 with fail
  refine wp_region_lit ?_
  refine lv rfl (some 30) rfl (v := ?_) ?_ ?_
  rotate_left
  · go_simp; try with_reducible rfl
  try simp only [Act.put, List.setIfInBounds_toArray, List.set_cons_zero, List.set_cons_succ]
  refine lv rfl (some 31) rfl (v := ?_) ?_ ?_
  rotate_left
  · go_simp; try with_reducible rfl
  try simp only [Act.put, List.setIfInBounds_toArray, List.set_cons_zero, List.set_cons_succ]
  refine lu rfl (some 32) rfl ?_
  try simp only [Act.put, List.setIfInBounds_toArray, List.set_cons_zero, List.set_cons_succ]
  refine lv rfl (some 33) rfl (v := ?_) ?_ ?_
  rotate_left
  · go_simp; try with_reducible rfl
  try simp only [Act.put, List.setIfInBounds_toArray, List.set_cons_zero, List.set_cons_succ]
  refine lv rfl (some 34) rfl (v := ?_) ?_ ?_
  rotate_left
  · go_simp; try with_reducible rfl
  try simp only [Act.put, List.setIfInBounds_toArray, List.set_cons_zero, List.set_cons_succ]
  refine lu rfl (some 35) rfl ?_
  try simp only [Act.put, List.setIfInBounds_toArray, List.set_cons_zero, List.set_cons_succ]
  refine lu rfl (some 36) rfl ?_
  try simp only [Act.put, List.setIfInBounds_toArray, List.set_cons_zero, List.set_cons_succ]
  refine lu rfl (some 37) rfl ?_
  try simp only [Act.put, List.setIfInBounds_toArray, List.set_cons_zero, List.set_cons_succ]
  refine lu rfl (some 38) rfl ?_
  try simp only [Act.put, List.setIfInBounds_toArray, List.set_cons_zero, List.set_cons_succ]
  refine lu rfl (some 39) rfl ?_
  try simp only [Act.put, List.setIfInBounds_toArray, List.set_cons_zero, List.set_cons_succ]
  refine lv rfl (some 40) rfl (v := ?_) ?_ ?_
  rotate_left
  · go_simp; try with_reducible rfl
  try simp only [Act.put, List.setIfInBounds_toArray, List.set_cons_zero, List.set_cons_succ]
  refine wpList_nil ?_
  go_upto_region 9 with fail
  refine wp_region_lit ?_
  refine lv rfl (some 41) rfl (v := ?_) ?_ ?_
  rotate_left
  · go_simp; try with_reducible rfl
  try simp only [Act.put, List.setIfInBounds_toArray, List.set_cons_zero, List.set_cons_succ]
  refine lv rfl (some 42) rfl (v := ?_) ?_ ?_
  rotate_left
  · go_simp; try with_reducible rfl
  try simp only [Act.put, List.setIfInBounds_toArray, List.set_cons_zero, List.set_cons_succ]
  refine lu rfl (some 43) rfl ?_
  try simp only [Act.put, List.setIfInBounds_toArray, List.set_cons_zero, List.set_cons_succ]
  refine lv rfl (some 44) rfl (v := ?_) ?_ ?_
  rotate_left
  · go_simp; try with_reducible rfl
  try simp only [Act.put, List.setIfInBounds_toArray, List.set_cons_zero, List.set_cons_succ]
  refine lv rfl (some 45) rfl (v := ?_) ?_ ?_
  rotate_left
  · go_simp; try with_reducible rfl
  try simp only [Act.put, List.setIfInBounds_toArray, List.set_cons_zero, List.set_cons_succ]
  refine lu rfl (some 46) rfl ?_
  try simp only [Act.put, List.setIfInBounds_toArray, List.set_cons_zero, List.set_cons_succ]
  refine lu rfl (some 47) rfl ?_
  try simp only [Act.put, List.setIfInBounds_toArray, List.set_cons_zero, List.set_cons_succ]
  refine lu rfl (some 48) rfl ?_
  try simp only [Act.put, List.setIfInBounds_toArray, List.set_cons_zero, List.set_cons_succ]
  refine lu rfl (some 49) rfl ?_
  try simp only [Act.put, List.setIfInBounds_toArray, List.set_cons_zero, List.set_cons_succ]
  refine lu rfl (some 50) rfl ?_
  try simp only [Act.put, List.setIfInBounds_toArray, List.set_cons_zero, List.set_cons_succ]
  refine lv rfl (some 51) rfl (v := ?_) ?_ ?_
  rotate_left
  · go_simp; try with_reducible rfl
  try simp only [Act.put, List.setIfInBounds_toArray, List.set_cons_zero, List.set_cons_succ]
  refine lv rfl (some 52) rfl (v := ?_) ?_ ?_
  rotate_left
  · go_simp; try with_reducible rfl
  try simp only [Act.put, List.setIfInBounds_toArray, List.set_cons_zero, List.set_cons_succ]
  refine lu rfl (some 53) rfl ?_
  try simp only [Act.put, List.setIfInBounds_toArray, List.set_cons_zero, List.set_cons_succ]
  refine lu rfl (some 54) rfl ?_
  try simp only [Act.put, List.setIfInBounds_toArray, List.set_cons_zero, List.set_cons_succ]
  refine lu rfl (some 55) rfl ?_
  try simp only [Act.put, List.setIfInBounds_toArray, List.set_cons_zero, List.set_cons_succ]
  refine lv rfl (some 56) rfl (v := ?_) ?_ ?_
  rotate_left
  · go_simp; try with_reducible rfl
  try simp only [Act.put, List.setIfInBounds_toArray, List.set_cons_zero, List.set_cons_succ]
  refine wpList_nil ?_
  go_upto_region 11 with fail
  refine wp_region_lit ?_
  refine ly M6 (some 58) rfl (yi_row 0 26 (.tmp 3) rfl rfl rfl rfl Try.underlying26 rfl (by kernel_rfl)) ?_
  try simp only [Act.put, List.setIfInBounds_toArray, List.set_cons_zero, List.set_cons_succ]
  refine ly M6 (some 59) rfl (yi_row 2 23 (.tmp 5) rfl rfl rfl rfl Try.underlying23 rfl (by kernel_rfl)) ?_
  try simp only [Act.put, List.setIfInBounds_toArray, List.set_cons_zero, List.set_cons_succ]
  refine l_call rfl (some 60) rfl (x1 _) (by kernel_rfl) (fun s7 hb7 => ?_)
  have M7 := M6.call hb7
  clear hb7 M6
  try simp only [Act.put, List.setIfInBounds_toArray, List.set_cons_zero, List.set_cons_succ]
  refine lv rfl (some 57) rfl (v := ?_) ?_ ?_
  rotate_left
  · go_simp; try with_reducible rfl
  try simp only [Act.put, List.setIfInBounds_toArray, List.set_cons_zero, List.set_cons_succ]
  refine lv rfl (some 61) rfl (v := ?_) ?_ ?_
  rotate_left
  · go_simp; try with_reducible rfl
  try simp only [Act.put, List.setIfInBounds_toArray, List.set_cons_zero, List.set_cons_succ]
  refine lv rfl (some 62) rfl (v := ?_) ?_ ?_
  rotate_left
  · go_simp; try with_reducible rfl
  try simp only [Act.put, List.setIfInBounds_toArray, List.set_cons_zero, List.set_cons_succ]
  refine l_alloc rfl (some 9) rfl #[.int .u8 0, .int .u8 0, .int .u8 0, .int .u8 0] 31 (by kernel_rfl) ?_
  have M8 := M7.new rfl 31 #[.int .u8 0, .int .u8 0, .int .u8 0, .int .u8 0]
  clear M7
  try simp only [List.cons_append, List.nil_append, List.set_cons_zero, List.set_cons_succ] at M8
  try simp only [Act.put, List.setIfInBounds_toArray, List.set_cons_zero, List.set_cons_succ]
  refine l_store M8 3 rfl 31 (.tmp 9) _ rfl rfl rfl rfl _ rfl (by kernel_rfl) (by rfl) (by kernel_rfl) _ rfl (fun s9 M9 => ?_)
  clear M8
  try simp only [List.cons_append, List.nil_append, List.set_cons_zero, List.set_cons_succ] at M9
  try simp only [Act.put, List.setIfInBounds_toArray, List.set_cons_zero, List.set_cons_succ]
  refine lv rfl (some 10) rfl (v := ?_) ?_ ?_
  rotate_left
  · go_simp; try with_reducible rfl
  try simp only [Act.put, List.setIfInBounds_toArray, List.set_cons_zero, List.set_cons_succ]
  refine wpList_nil ?_
  go_upto_region 12 with fail
  refine wp_region_lit ?_
  refine ly M9 (some 64) rfl (yi_row 1 26 (.tmp 4) rfl rfl rfl rfl Try.underlying26 rfl (by kernel_rfl)) ?_
  try simp only [Act.put, List.setIfInBounds_toArray, List.set_cons_zero, List.set_cons_succ]
  refine ly M9 (some 65) rfl (yi_row 2 23 (.tmp 5) rfl rfl rfl rfl Try.underlying23 rfl (by kernel_rfl)) ?_
  try simp only [Act.put, List.setIfInBounds_toArray, List.set_cons_zero, List.set_cons_succ]
  refine l_call rfl (some 66) rfl (x2 _) (by kernel_rfl) (fun s10 hb10 => ?_)
  have M10 := M9.call hb10
  clear hb10 M9
  try simp only [Act.put, List.setIfInBounds_toArray, List.set_cons_zero, List.set_cons_succ]
  refine lv rfl (some 63) rfl (v := ?_) ?_ ?_
  rotate_left
  · go_simp; try with_reducible rfl
  try simp only [Act.put, List.setIfInBounds_toArray, List.set_cons_zero, List.set_cons_succ]
  refine lv rfl (some 67) rfl (v := ?_) ?_ ?_
  rotate_left
  · go_simp; try with_reducible rfl
  try simp only [Act.put, List.setIfInBounds_toArray, List.set_cons_zero, List.set_cons_succ]
  refine lv rfl (some 68) rfl (v := ?_) ?_ ?_
  rotate_left
  · go_simp; try with_reducible rfl
  try simp only [Act.put, List.setIfInBounds_toArray, List.set_cons_zero, List.set_cons_succ]
  refine l_alloc rfl (some 11) rfl #[.int .u8 0, .int .u8 0, .int .u8 0, .int .u8 0] 31 (by kernel_rfl) ?_
  have M11 := M10.new rfl 31 #[.int .u8 0, .int .u8 0, .int .u8 0, .int .u8 0]
  clear M10
  try simp only [List.cons_append, List.nil_append, List.set_cons_zero, List.set_cons_succ] at M11
  try simp only [Act.put, List.setIfInBounds_toArray, List.set_cons_zero, List.set_cons_succ]
  refine l_store M11 4 rfl 31 (.tmp 11) _ rfl rfl rfl rfl _ rfl (by kernel_rfl) (by rfl) (by kernel_rfl) _ rfl (fun s12 M12 => ?_)
  clear M11
  try simp only [List.cons_append, List.nil_append, List.set_cons_zero, List.set_cons_succ] at M12
  try simp only [Act.put, List.setIfInBounds_toArray, List.set_cons_zero, List.set_cons_succ]
  refine lv rfl (some 12) rfl (v := ?_) ?_ ?_
  rotate_left
  · go_simp; try with_reducible rfl
  try simp only [Act.put, List.setIfInBounds_toArray, List.set_cons_zero, List.set_cons_succ]
  refine wpList_nil ?_
  go_upto_region 13 with fail
  refine wp_region_lit ?_
  refine lv rfl (some 69) rfl (v := ?_) ?_ ?_
  rotate_left
  · go_simp; try with_reducible rfl
  try simp only [Act.put, List.setIfInBounds_toArray, List.set_cons_zero, List.set_cons_succ]
  refine lv rfl (some 70) rfl (v := ?_) ?_ ?_
  rotate_left
  · go_simp; try with_reducible rfl
  try simp only [Act.put, List.setIfInBounds_toArray, List.set_cons_zero, List.set_cons_succ]
  refine lv rfl (some 71) rfl (v := ?_) ?_ ?_
  rotate_left
  · go_simp; try with_reducible rfl
  try simp only [Act.put, List.setIfInBounds_toArray, List.set_cons_zero, List.set_cons_succ]
  refine lv rfl (some 72) rfl (v := ?_) ?_ ?_
  rotate_left
  · go_simp; try with_reducible rfl
  try simp only [Act.put, List.setIfInBounds_toArray, List.set_cons_zero, List.set_cons_succ]
  refine lv rfl (some 73) rfl (v := ?_) ?_ ?_
  rotate_left
  · go_simp; try with_reducible rfl
  try simp only [Act.put, List.setIfInBounds_toArray, List.set_cons_zero, List.set_cons_succ]
  refine lv rfl (some 74) rfl (v := ?_) ?_ ?_
  rotate_left
  · go_simp; try with_reducible rfl
  try simp only [Act.put, List.setIfInBounds_toArray, List.set_cons_zero, List.set_cons_succ]
  refine lv rfl (some 75) rfl (v := ?_) ?_ ?_
  rotate_left
  · go_simp; try with_reducible rfl
  try simp only [Act.put, List.setIfInBounds_toArray, List.set_cons_zero, List.set_cons_succ]
  refine lv rfl (some 76) rfl (v := ?_) ?_ ?_
  rotate_left
  · go_simp; try with_reducible rfl
  try simp only [Act.put, List.setIfInBounds_toArray, List.set_cons_zero, List.set_cons_succ]
  refine lv rfl (some 77) rfl (v := ?_) ?_ ?_
  rotate_left
  · go_simp; try with_reducible rfl
  try simp only [Act.put, List.setIfInBounds_toArray, List.set_cons_zero, List.set_cons_succ]
  refine lv rfl (some 78) rfl (v := ?_) ?_ ?_
  rotate_left
  · go_simp; try with_reducible rfl
  try simp only [Act.put, List.setIfInBounds_toArray, List.set_cons_zero, List.set_cons_succ]
  refine lv rfl (some 79) rfl (v := ?_) ?_ ?_
  rotate_left
  · go_simp; try with_reducible rfl
  try simp only [Act.put, List.setIfInBounds_toArray, List.set_cons_zero, List.set_cons_succ]
  refine lv rfl (some 80) rfl (v := ?_) ?_ ?_
  rotate_left
  · go_simp; try with_reducible rfl
  try simp only [Act.put, List.setIfInBounds_toArray, List.set_cons_zero, List.set_cons_succ]
  refine lv rfl (some 81) rfl (v := ?_) ?_ ?_
  rotate_left
  · go_simp; try with_reducible rfl
  try simp only [Act.put, List.setIfInBounds_toArray, List.set_cons_zero, List.set_cons_succ]
  refine ly M12 (some 82) rfl (yi_row 0 26 (.tmp 3) rfl rfl rfl rfl Try.underlying26 rfl (by kernel_rfl)) ?_
  try simp only [Act.put, List.setIfInBounds_toArray, List.set_cons_zero, List.set_cons_succ]
  refine l_call rfl (some 83) rfl (r1 _) (by kernel_rfl) (fun s13 hb13 => ?_)
  have M13 := M12.call hb13
  clear hb13 M12
  try simp only [Act.put, List.setIfInBounds_toArray, List.set_cons_zero, List.set_cons_succ]
  refine lv rfl (some 84) rfl (v := ?_) ?_ ?_
  rotate_left
  · go_simp; try with_reducible rfl
  try simp only [Act.put, List.setIfInBounds_toArray, List.set_cons_zero, List.set_cons_succ]
  refine lv rfl (some 85) rfl (v := ?_) ?_ ?_
  rotate_left
  · go_simp; try with_reducible rfl
  try simp only [Act.put, List.setIfInBounds_toArray, List.set_cons_zero, List.set_cons_succ]
  refine ly M13 (some 86) rfl (yi_row 0 26 (.tmp 3) rfl rfl rfl rfl Try.underlying26 rfl (by kernel_rfl)) ?_
  try simp only [Act.put, List.setIfInBounds_toArray, List.set_cons_zero, List.set_cons_succ]
  refine lv rfl (some 87) rfl (v := ?_) ?_ ?_
  rotate_left
  · go_simp; try with_reducible rfl
  try simp only [Act.put, List.setIfInBounds_toArray, List.set_cons_zero, List.set_cons_succ]
  refine ly M13 (some 88) rfl (yi_part 0 23 (.tmp 87) rfl rfl rfl 0 rfl (a16 Q) Try.underlying23 rfl (by kernel_rfl) (by kernel_rfl)) ?_
  try simp only [Act.put, List.setIfInBounds_toArray, List.set_cons_zero, List.set_cons_succ]
  refine l_call rfl (some 89) rfl (i1 _) (by kernel_rfl) (fun s14 hb14 => ?_)
  have M14 := M13.call hb14
  clear hb14 M13
  try simp only [Act.put, List.setIfInBounds_toArray, List.set_cons_zero, List.set_cons_succ]
  refine lv rfl (some 90) rfl (v := ?_) ?_ ?_
  rotate_left
  · go_simp; try with_reducible rfl
  try simp only [Act.put, List.setIfInBounds_toArray, List.set_cons_zero, List.set_cons_succ]
  refine lv rfl (some 91) rfl (v := ?_) ?_ ?_
  rotate_left
  · go_simp; try with_reducible rfl
  try simp only [Act.put, List.setIfInBounds_toArray, List.set_cons_zero, List.set_cons_succ]
  refine lv rfl (some 6) rfl (v := ?_) ?_ ?_
  rotate_left
  · go_simp; try with_reducible rfl
  try simp only [Act.put, List.setIfInBounds_toArray, List.set_cons_zero, List.set_cons_succ]
  refine wpList_nil ?_
  go_wp2_with fail
  go_ret
  exact ⟨rfl, M14.below⟩
set_option maxRecDepth 100000 in
set_option maxHeartbeats 4000000 in
theorem apart_100n (P Q X : Nat → Int) (n m : Int) (w : World) (bp : Bytes 16 P) (bq : Bytes 16 Q) (bx : Bytes 16 X) (hl : m < n) (ha : ¬ InsideP Q X m) (hb : ¬ InsideP P X n) (hr : ¬ RightP Q m) : Calls Try.prog 8 #[net P n, net Q m, .agg (a16 X)] w fun e w' => e = .returned (.bool true) ∧ Below w.heap.size w w' := by
  have c1 := fun w => inside_n bq bx ha w
  have c2 := fun w => inside_n bp bx hb w
  obtain ⟨C, r, hC, x1⟩ := extract_ex m bq bx
  obtain ⟨D, s, hD, x2⟩ := extract_ex n bp bx
  obtain rfl : r = false := by cases r with | false => rfl | true => exact absurd (hC rfl) ha
  obtain rfl : s = false := by cases s with | false => rfl | true => exact absurd (hD rfl) hb
  have r1 := fun w => right_f Q m w hr
  have ht : m < n := by omega
  clear bp bq bx ha hb hl hC hD hr
  go_enter Try.func8, Try.ntmps8
  go_upto_region 1 with fail
  have M0 := Mem.three w 26 26 23 #[.int .u8 (P 0), .int .u8 (P 1), .int .u8 (P 2), .int .u8 (P 3), .int .u8 (P 4), .int .u8 (P 5), .int .u8 (P 6), .int .u8 (P 7), .int .u8 (P 8), .int .u8 (P 9), .int .u8 (P 10), .int .u8 (P 11), .int .u8 (P 12), .int .u8 (P 13), .int .u8 (P 14), .int .u8 (P 15), .int .i64 n] #[.int .u8 (Q 0), .int .u8 (Q 1), .int .u8 (Q 2), .int .u8 (Q 3), .int .u8 (Q 4), .int .u8 (Q 5), .int .u8 (Q 6), .int .u8 (Q 7), .int .u8 (Q 8), .int .u8 (Q 9), .int .u8 (Q 10), .int .u8 (Q 11), .int .u8 (Q 12), .int .u8 (Q 13), .int .u8 (Q 14), .int .u8 (Q 15), .int .i64 m] (a16 X)
  refine wp_region_lit ?_
  refine l_call rfl (some 13) rfl (awake_any _) (by kernel_rfl) (fun s1 hb1 => ?_)
  have M1 := M0.call hb1
  clear hb1 M0
  try simp only [Act.put, List.setIfInBounds_toArray, List.set_cons_zero, List.set_cons_succ]
  refine lv rfl (some 14) rfl (v := ?_) ?_ ?_
  rotate_left
  · go_simp; try with_reducible rfl
  try simp only [Act.put, List.setIfInBounds_toArray, List.set_cons_zero, List.set_cons_succ]
  refine wpList_nil ?_
  go_upto_region 3 with fail
  refine wp_region_held_drew (S := fun w' => Mem w w' _) (by kernel_rfl) M1.drew (fun _ => ?_)
  have M2 := M1.drew
  refine tk (i := 0) rfl (some 15) rfl (by kernel_rfl) (by kernel_rfl) (by kernel_rfl) (fun _ _ _ h => h) (yi_row 0 26 (.tmp 3) rfl rfl rfl rfl Try.underlying26 rfl (by kernel_rfl)) M2 ?_
  try simp only [Act.put, List.setIfInBounds_toArray, List.set_cons_zero, List.set_cons_succ]
  refine tk (i := 1) rfl (some 16) rfl (by kernel_rfl) (by kernel_rfl) (by kernel_rfl) (fun _ _ _ h => h) (yi_row 2 23 (.tmp 5) rfl rfl rfl rfl Try.underlying23 rfl (by kernel_rfl)) M2 ?_
  try simp only [Act.put, List.setIfInBounds_toArray, List.set_cons_zero, List.set_cons_succ]
  refine tk (i := 3) rfl (some 18) rfl (by kernel_rfl) (by kernel_rfl) (by kernel_rfl) (fun _ _ _ h => h) (yi_row 1 26 (.tmp 4) rfl rfl rfl rfl Try.underlying26 rfl (by kernel_rfl)) M2 ?_
  try simp only [Act.put, List.setIfInBounds_toArray, List.set_cons_zero, List.set_cons_succ]
  refine tk (i := 4) rfl (some 19) rfl (by kernel_rfl) (by kernel_rfl) (by kernel_rfl) (fun _ _ _ h => h) (yi_row 2 23 (.tmp 5) rfl rfl rfl rfl Try.underlying23 rfl (by kernel_rfl)) M2 ?_
  try simp only [Act.put, List.setIfInBounds_toArray, List.set_cons_zero, List.set_cons_succ]
  refine wpAnyH_ready (rs := [2]) (by kernel_rfl) (by simp) ?_
  refine br_call rfl rfl (some 17) rfl (c2 _) (by kernel_rfl) (fun w' hb => M2.call hb) (fun s3 hb3 => ?_) AllReadyH.nil
  have M3 := M2.call hb3
  clear hb3 M2
  try simp only [Act.put, List.setIfInBounds_toArray, List.set_cons_zero, List.set_cons_succ]
  refine wpAnyH_ready (rs := [5]) (by kernel_rfl) (by simp) ?_
  refine br_call rfl rfl (some 20) rfl (c1 _) (by kernel_rfl) (fun w' hb => M3.call hb) (fun s4 hb4 => ?_) AllReadyH.nil
  have M4 := M3.call hb4
  clear hb4 M3
  try simp only [Act.put, List.setIfInBounds_toArray, List.set_cons_zero, List.set_cons_succ]
  refine tk (i := 6) (v := ?_) rfl (some 7) rfl (by kernel_rfl) (by kernel_rfl) (by kernel_rfl) (fun _ _ _ h => h) (Or.inl ⟨by rfl, ?_⟩) M4 ?_
  rotate_left
  · intro w hS; go_simp; try with_reducible rfl
  try simp only [Act.put, List.setIfInBounds_toArray, List.set_cons_zero, List.set_cons_succ]
  refine tk (i := 7) (v := ?_) rfl (some 8) rfl (by kernel_rfl) (by kernel_rfl) (by kernel_rfl) (fun _ _ _ h => h) (Or.inl ⟨by rfl, ?_⟩) M4 ?_
  rotate_left
  · intro w hS; go_simp; try with_reducible rfl
  try simp only [Act.put, List.setIfInBounds_toArray, List.set_cons_zero, List.set_cons_succ]
  refine wpAnyH_done (by kernel_rfl) ?_ _
  go_upto_region 4 with fail
  refine wp_region_lit ?_
  refine lv rfl (some 21) rfl (v := ?_) ?_ ?_
  rotate_left
  · go_simp; try with_reducible rfl
  try simp only [Act.put, List.setIfInBounds_toArray, List.set_cons_zero, List.set_cons_succ]
  refine ly M4 (some 22) rfl (yi_cell 0 3 (.tmp 21) rfl rfl rfl _ rfl _ Try.underlying3 rfl) ?_
  try simp only [Act.put, List.setIfInBounds_toArray, List.set_cons_zero, List.set_cons_succ]
  refine lv rfl (some 23) rfl (v := ?_) ?_ ?_
  rotate_left
  · go_simp; try with_reducible rfl
  try simp only [Act.put, List.setIfInBounds_toArray, List.set_cons_zero, List.set_cons_succ]
  refine ly M4 (some 24) rfl (yi_cell 1 3 (.tmp 23) rfl rfl rfl _ rfl _ Try.underlying3 rfl) ?_
  try simp only [Act.put, List.setIfInBounds_toArray, List.set_cons_zero, List.set_cons_succ]
  refine lv rfl (some 25) rfl (v := ?_) ?_ ?_
  rotate_left
  · go_simp; try with_reducible rfl
  try simp only [Act.put, List.setIfInBounds_toArray, List.set_cons_zero, List.set_cons_succ]
  refine wpList_nil ?_
  go_upto_region 5 with fail
  refine wp_region_lit ?_
  refine ly M4 (some 26) rfl (yi_row 1 26 (.tmp 4) rfl rfl rfl rfl Try.underlying26 rfl (by kernel_rfl)) ?_
  try simp only [Act.put, List.setIfInBounds_toArray, List.set_cons_zero, List.set_cons_succ]
  refine ly M4 (some 27) rfl (yi_row 0 26 (.tmp 3) rfl rfl rfl rfl Try.underlying26 rfl (by kernel_rfl)) ?_
  try simp only [Act.put, List.setIfInBounds_toArray, List.set_cons_zero, List.set_cons_succ]
  refine l_store M4 0 rfl 26 (.tmp 3) _ rfl rfl rfl rfl _ rfl (by kernel_rfl) (by rfl) (by kernel_rfl) _ rfl (fun s5 M5 => ?_)
  clear M4
  try simp only [List.cons_append, List.nil_append, List.set_cons_zero, List.set_cons_succ] at M5
  try simp only [Act.put, List.setIfInBounds_toArray, List.set_cons_zero, List.set_cons_succ]
  refine l_store M5 1 rfl 26 (.tmp 4) _ rfl rfl rfl rfl _ rfl (by kernel_rfl) (by rfl) (by kernel_rfl) _ rfl (fun s6 M6 => ?_)
  clear M5
  try simp only [List.cons_append, List.nil_append, List.set_cons_zero, List.set_cons_succ] at M6
  try simp only [Act.put, List.setIfInBounds_toArray, List.set_cons_zero, List.set_cons_succ]
  refine wpList_nil ?_
  go_upto_region 6 with fail
  refine wp_region_lit ?_
  refine lv rfl (some 28) rfl (v := ?_) ?_ ?_
  rotate_left
  · go_simp; try with_reducible rfl
  try simp only [Act.put, List.setIfInBounds_toArray, List.set_cons_zero, List.set_cons_succ]
  refine lv rfl (some 29) rfl (v := ?_) ?_ ?_
  rotate_left
  · go_simp; try with_reducible rfl
  try simp only [Act.put, List.setIfInBounds_toArray, List.set_cons_zero, List.set_cons_succ]
  refine lv rfl (some 7) rfl (v := ?_) ?_ ?_
  rotate_left
  · go_simp; try with_reducible rfl
  try simp only [Act.put, List.setIfInBounds_toArray, List.set_cons_zero, List.set_cons_succ]
  refine lv rfl (some 8) rfl (v := ?_) ?_ ?_
  rotate_left
  · go_simp; try with_reducible rfl
  try simp only [Act.put, List.setIfInBounds_toArray, List.set_cons_zero, List.set_cons_succ]
  refine wpList_nil ?_
  go_upto_region 7 with fail
  refine wp_region_lit ?_
  refine lv rfl (some 30) rfl (v := ?_) ?_ ?_
  rotate_left
  · go_simp; try with_reducible rfl
  try simp only [Act.put, List.setIfInBounds_toArray, List.set_cons_zero, List.set_cons_succ]
  refine lv rfl (some 31) rfl (v := ?_) ?_ ?_
  rotate_left
  · go_simp; try with_reducible rfl
  try simp only [Act.put, List.setIfInBounds_toArray, List.set_cons_zero, List.set_cons_succ]
  refine lu rfl (some 32) rfl ?_
  try simp only [Act.put, List.setIfInBounds_toArray, List.set_cons_zero, List.set_cons_succ]
  refine lv rfl (some 33) rfl (v := ?_) ?_ ?_
  rotate_left
  · go_simp; try with_reducible rfl
  try simp only [Act.put, List.setIfInBounds_toArray, List.set_cons_zero, List.set_cons_succ]
  refine lv rfl (some 34) rfl (v := ?_) ?_ ?_
  rotate_left
  · go_simp; try with_reducible rfl
  try simp only [Act.put, List.setIfInBounds_toArray, List.set_cons_zero, List.set_cons_succ]
  refine lu rfl (some 35) rfl ?_
  try simp only [Act.put, List.setIfInBounds_toArray, List.set_cons_zero, List.set_cons_succ]
  refine lu rfl (some 36) rfl ?_
  try simp only [Act.put, List.setIfInBounds_toArray, List.set_cons_zero, List.set_cons_succ]
  refine lu rfl (some 37) rfl ?_
  try simp only [Act.put, List.setIfInBounds_toArray, List.set_cons_zero, List.set_cons_succ]
  refine lu rfl (some 38) rfl ?_
  try simp only [Act.put, List.setIfInBounds_toArray, List.set_cons_zero, List.set_cons_succ]
  refine lu rfl (some 39) rfl ?_
  try simp only [Act.put, List.setIfInBounds_toArray, List.set_cons_zero, List.set_cons_succ]
  refine lv rfl (some 40) rfl (v := ?_) ?_ ?_
  rotate_left
  · go_simp; try with_reducible rfl
  try simp only [Act.put, List.setIfInBounds_toArray, List.set_cons_zero, List.set_cons_succ]
  refine wpList_nil ?_
  go_upto_region 9 with fail
  refine wp_region_lit ?_
  refine lv rfl (some 41) rfl (v := ?_) ?_ ?_
  rotate_left
  · go_simp; try with_reducible rfl
  try simp only [Act.put, List.setIfInBounds_toArray, List.set_cons_zero, List.set_cons_succ]
  refine lv rfl (some 42) rfl (v := ?_) ?_ ?_
  rotate_left
  · go_simp; try with_reducible rfl
  try simp only [Act.put, List.setIfInBounds_toArray, List.set_cons_zero, List.set_cons_succ]
  refine lu rfl (some 43) rfl ?_
  try simp only [Act.put, List.setIfInBounds_toArray, List.set_cons_zero, List.set_cons_succ]
  refine lv rfl (some 44) rfl (v := ?_) ?_ ?_
  rotate_left
  · go_simp; try with_reducible rfl
  try simp only [Act.put, List.setIfInBounds_toArray, List.set_cons_zero, List.set_cons_succ]
  refine lv rfl (some 45) rfl (v := ?_) ?_ ?_
  rotate_left
  · go_simp; try with_reducible rfl
  try simp only [Act.put, List.setIfInBounds_toArray, List.set_cons_zero, List.set_cons_succ]
  refine lu rfl (some 46) rfl ?_
  try simp only [Act.put, List.setIfInBounds_toArray, List.set_cons_zero, List.set_cons_succ]
  refine lu rfl (some 47) rfl ?_
  try simp only [Act.put, List.setIfInBounds_toArray, List.set_cons_zero, List.set_cons_succ]
  refine lu rfl (some 48) rfl ?_
  try simp only [Act.put, List.setIfInBounds_toArray, List.set_cons_zero, List.set_cons_succ]
  refine lu rfl (some 49) rfl ?_
  try simp only [Act.put, List.setIfInBounds_toArray, List.set_cons_zero, List.set_cons_succ]
  refine lu rfl (some 50) rfl ?_
  try simp only [Act.put, List.setIfInBounds_toArray, List.set_cons_zero, List.set_cons_succ]
  refine lv rfl (some 51) rfl (v := ?_) ?_ ?_
  rotate_left
  · go_simp; try with_reducible rfl
  try simp only [Act.put, List.setIfInBounds_toArray, List.set_cons_zero, List.set_cons_succ]
  refine lv rfl (some 52) rfl (v := ?_) ?_ ?_
  rotate_left
  · go_simp; try with_reducible rfl
  try simp only [Act.put, List.setIfInBounds_toArray, List.set_cons_zero, List.set_cons_succ]
  refine lu rfl (some 53) rfl ?_
  try simp only [Act.put, List.setIfInBounds_toArray, List.set_cons_zero, List.set_cons_succ]
  refine lu rfl (some 54) rfl ?_
  try simp only [Act.put, List.setIfInBounds_toArray, List.set_cons_zero, List.set_cons_succ]
  refine lu rfl (some 55) rfl ?_
  try simp only [Act.put, List.setIfInBounds_toArray, List.set_cons_zero, List.set_cons_succ]
  refine lv rfl (some 56) rfl (v := ?_) ?_ ?_
  rotate_left
  · go_simp; try with_reducible rfl
  try simp only [Act.put, List.setIfInBounds_toArray, List.set_cons_zero, List.set_cons_succ]
  refine wpList_nil ?_
  go_upto_region 11 with fail
  refine wp_region_lit ?_
  refine ly M6 (some 58) rfl (yi_row 0 26 (.tmp 3) rfl rfl rfl rfl Try.underlying26 rfl (by kernel_rfl)) ?_
  try simp only [Act.put, List.setIfInBounds_toArray, List.set_cons_zero, List.set_cons_succ]
  refine ly M6 (some 59) rfl (yi_row 2 23 (.tmp 5) rfl rfl rfl rfl Try.underlying23 rfl (by kernel_rfl)) ?_
  try simp only [Act.put, List.setIfInBounds_toArray, List.set_cons_zero, List.set_cons_succ]
  refine l_call rfl (some 60) rfl (x1 _) (by kernel_rfl) (fun s7 hb7 => ?_)
  have M7 := M6.call hb7
  clear hb7 M6
  try simp only [Act.put, List.setIfInBounds_toArray, List.set_cons_zero, List.set_cons_succ]
  refine lv rfl (some 57) rfl (v := ?_) ?_ ?_
  rotate_left
  · go_simp; try with_reducible rfl
  try simp only [Act.put, List.setIfInBounds_toArray, List.set_cons_zero, List.set_cons_succ]
  refine lv rfl (some 61) rfl (v := ?_) ?_ ?_
  rotate_left
  · go_simp; try with_reducible rfl
  try simp only [Act.put, List.setIfInBounds_toArray, List.set_cons_zero, List.set_cons_succ]
  refine lv rfl (some 62) rfl (v := ?_) ?_ ?_
  rotate_left
  · go_simp; try with_reducible rfl
  try simp only [Act.put, List.setIfInBounds_toArray, List.set_cons_zero, List.set_cons_succ]
  refine l_alloc rfl (some 9) rfl #[.int .u8 0, .int .u8 0, .int .u8 0, .int .u8 0] 31 (by kernel_rfl) ?_
  have M8 := M7.new rfl 31 #[.int .u8 0, .int .u8 0, .int .u8 0, .int .u8 0]
  clear M7
  try simp only [List.cons_append, List.nil_append, List.set_cons_zero, List.set_cons_succ] at M8
  try simp only [Act.put, List.setIfInBounds_toArray, List.set_cons_zero, List.set_cons_succ]
  refine l_store M8 3 rfl 31 (.tmp 9) _ rfl rfl rfl rfl _ rfl (by kernel_rfl) (by rfl) (by kernel_rfl) _ rfl (fun s9 M9 => ?_)
  clear M8
  try simp only [List.cons_append, List.nil_append, List.set_cons_zero, List.set_cons_succ] at M9
  try simp only [Act.put, List.setIfInBounds_toArray, List.set_cons_zero, List.set_cons_succ]
  refine lv rfl (some 10) rfl (v := ?_) ?_ ?_
  rotate_left
  · go_simp; try with_reducible rfl
  try simp only [Act.put, List.setIfInBounds_toArray, List.set_cons_zero, List.set_cons_succ]
  refine wpList_nil ?_
  go_upto_region 12 with fail
  refine wp_region_lit ?_
  refine ly M9 (some 64) rfl (yi_row 1 26 (.tmp 4) rfl rfl rfl rfl Try.underlying26 rfl (by kernel_rfl)) ?_
  try simp only [Act.put, List.setIfInBounds_toArray, List.set_cons_zero, List.set_cons_succ]
  refine ly M9 (some 65) rfl (yi_row 2 23 (.tmp 5) rfl rfl rfl rfl Try.underlying23 rfl (by kernel_rfl)) ?_
  try simp only [Act.put, List.setIfInBounds_toArray, List.set_cons_zero, List.set_cons_succ]
  refine l_call rfl (some 66) rfl (x2 _) (by kernel_rfl) (fun s10 hb10 => ?_)
  have M10 := M9.call hb10
  clear hb10 M9
  try simp only [Act.put, List.setIfInBounds_toArray, List.set_cons_zero, List.set_cons_succ]
  refine lv rfl (some 63) rfl (v := ?_) ?_ ?_
  rotate_left
  · go_simp; try with_reducible rfl
  try simp only [Act.put, List.setIfInBounds_toArray, List.set_cons_zero, List.set_cons_succ]
  refine lv rfl (some 67) rfl (v := ?_) ?_ ?_
  rotate_left
  · go_simp; try with_reducible rfl
  try simp only [Act.put, List.setIfInBounds_toArray, List.set_cons_zero, List.set_cons_succ]
  refine lv rfl (some 68) rfl (v := ?_) ?_ ?_
  rotate_left
  · go_simp; try with_reducible rfl
  try simp only [Act.put, List.setIfInBounds_toArray, List.set_cons_zero, List.set_cons_succ]
  refine l_alloc rfl (some 11) rfl #[.int .u8 0, .int .u8 0, .int .u8 0, .int .u8 0] 31 (by kernel_rfl) ?_
  have M11 := M10.new rfl 31 #[.int .u8 0, .int .u8 0, .int .u8 0, .int .u8 0]
  clear M10
  try simp only [List.cons_append, List.nil_append, List.set_cons_zero, List.set_cons_succ] at M11
  try simp only [Act.put, List.setIfInBounds_toArray, List.set_cons_zero, List.set_cons_succ]
  refine l_store M11 4 rfl 31 (.tmp 11) _ rfl rfl rfl rfl _ rfl (by kernel_rfl) (by rfl) (by kernel_rfl) _ rfl (fun s12 M12 => ?_)
  clear M11
  try simp only [List.cons_append, List.nil_append, List.set_cons_zero, List.set_cons_succ] at M12
  try simp only [Act.put, List.setIfInBounds_toArray, List.set_cons_zero, List.set_cons_succ]
  refine lv rfl (some 12) rfl (v := ?_) ?_ ?_
  rotate_left
  · go_simp; try with_reducible rfl
  try simp only [Act.put, List.setIfInBounds_toArray, List.set_cons_zero, List.set_cons_succ]
  refine wpList_nil ?_
  go_upto_region 13 with fail
  refine wp_region_lit ?_
  refine lv rfl (some 69) rfl (v := ?_) ?_ ?_
  rotate_left
  · go_simp; try with_reducible rfl
  try simp only [Act.put, List.setIfInBounds_toArray, List.set_cons_zero, List.set_cons_succ]
  refine lv rfl (some 70) rfl (v := ?_) ?_ ?_
  rotate_left
  · go_simp; try with_reducible rfl
  try simp only [Act.put, List.setIfInBounds_toArray, List.set_cons_zero, List.set_cons_succ]
  refine lv rfl (some 71) rfl (v := ?_) ?_ ?_
  rotate_left
  · go_simp; try with_reducible rfl
  try simp only [Act.put, List.setIfInBounds_toArray, List.set_cons_zero, List.set_cons_succ]
  refine lv rfl (some 72) rfl (v := ?_) ?_ ?_
  rotate_left
  · go_simp; try with_reducible rfl
  try simp only [Act.put, List.setIfInBounds_toArray, List.set_cons_zero, List.set_cons_succ]
  refine lv rfl (some 73) rfl (v := ?_) ?_ ?_
  rotate_left
  · go_simp; try with_reducible rfl
  try simp only [Act.put, List.setIfInBounds_toArray, List.set_cons_zero, List.set_cons_succ]
  refine lv rfl (some 74) rfl (v := ?_) ?_ ?_
  rotate_left
  · go_simp; try with_reducible rfl
  try simp only [Act.put, List.setIfInBounds_toArray, List.set_cons_zero, List.set_cons_succ]
  refine lv rfl (some 75) rfl (v := ?_) ?_ ?_
  rotate_left
  · go_simp; try with_reducible rfl
  try simp only [Act.put, List.setIfInBounds_toArray, List.set_cons_zero, List.set_cons_succ]
  refine lv rfl (some 76) rfl (v := ?_) ?_ ?_
  rotate_left
  · go_simp; try with_reducible rfl
  try simp only [Act.put, List.setIfInBounds_toArray, List.set_cons_zero, List.set_cons_succ]
  refine lv rfl (some 77) rfl (v := ?_) ?_ ?_
  rotate_left
  · go_simp; try with_reducible rfl
  try simp only [Act.put, List.setIfInBounds_toArray, List.set_cons_zero, List.set_cons_succ]
  refine lv rfl (some 78) rfl (v := ?_) ?_ ?_
  rotate_left
  · go_simp; try with_reducible rfl
  try simp only [Act.put, List.setIfInBounds_toArray, List.set_cons_zero, List.set_cons_succ]
  refine lv rfl (some 79) rfl (v := ?_) ?_ ?_
  rotate_left
  · go_simp; try with_reducible rfl
  try simp only [Act.put, List.setIfInBounds_toArray, List.set_cons_zero, List.set_cons_succ]
  refine lv rfl (some 80) rfl (v := ?_) ?_ ?_
  rotate_left
  · go_simp; try with_reducible rfl
  try simp only [Act.put, List.setIfInBounds_toArray, List.set_cons_zero, List.set_cons_succ]
  refine lv rfl (some 81) rfl (v := ?_) ?_ ?_
  rotate_left
  · go_simp; try with_reducible rfl
  try simp only [Act.put, List.setIfInBounds_toArray, List.set_cons_zero, List.set_cons_succ]
  refine ly M12 (some 82) rfl (yi_row 0 26 (.tmp 3) rfl rfl rfl rfl Try.underlying26 rfl (by kernel_rfl)) ?_
  try simp only [Act.put, List.setIfInBounds_toArray, List.set_cons_zero, List.set_cons_succ]
  refine l_call rfl (some 83) rfl (r1 _) (by kernel_rfl) (fun s13 hb13 => ?_)
  have M13 := M12.call hb13
  clear hb13 M12
  try simp only [Act.put, List.setIfInBounds_toArray, List.set_cons_zero, List.set_cons_succ]
  refine lv rfl (some 84) rfl (v := ?_) ?_ ?_
  rotate_left
  · go_simp; try with_reducible rfl
  try simp only [Act.put, List.setIfInBounds_toArray, List.set_cons_zero, List.set_cons_succ]
  refine lv rfl (some 85) rfl (v := ?_) ?_ ?_
  rotate_left
  · go_simp; try with_reducible rfl
  try simp only [Act.put, List.setIfInBounds_toArray, List.set_cons_zero, List.set_cons_succ]
  refine lu rfl (some 86) rfl ?_
  try simp only [Act.put, List.setIfInBounds_toArray, List.set_cons_zero, List.set_cons_succ]
  refine lu rfl (some 87) rfl ?_
  try simp only [Act.put, List.setIfInBounds_toArray, List.set_cons_zero, List.set_cons_succ]
  refine lu rfl (some 88) rfl ?_
  try simp only [Act.put, List.setIfInBounds_toArray, List.set_cons_zero, List.set_cons_succ]
  refine lu rfl (some 89) rfl ?_
  try simp only [Act.put, List.setIfInBounds_toArray, List.set_cons_zero, List.set_cons_succ]
  refine lv rfl (some 90) rfl (v := ?_) ?_ ?_
  rotate_left
  · go_simp; try with_reducible rfl
  try simp only [Act.put, List.setIfInBounds_toArray, List.set_cons_zero, List.set_cons_succ]
  refine lv rfl (some 91) rfl (v := ?_) ?_ ?_
  rotate_left
  · go_simp; try with_reducible rfl
  try simp only [Act.put, List.setIfInBounds_toArray, List.set_cons_zero, List.set_cons_succ]
  refine lv rfl (some 6) rfl (v := ?_) ?_ ?_
  rotate_left
  · go_simp; try with_reducible rfl
  try simp only [Act.put, List.setIfInBounds_toArray, List.set_cons_zero, List.set_cons_succ]
  refine wpList_nil ?_
  go_wp2_with fail
  go_ret
  exact ⟨rfl, M13.below⟩
theorem apart_walk (P Q X : Nat → Int) (n m : Int) (w : World) (bp : Bytes 16 P) (bq : Bytes 16 Q) (bx : Bytes 16 X) : Calls Try.prog 8 #[net P n, net Q m, .agg (a16 X)] w fun e w' => e = .returned (.bool true) ∧ Below w.heap.size w w' := by
  by_cases hl : m < n
  · by_cases ha : InsideP Q X m <;> by_cases hb : InsideP P X n
    · exact apart_111lt P Q X n m w bp bq bx hl ha hb
    · exact apart_110x P Q X n m w bp bq bx hl ha hb
    · by_cases hr : RightP Q m
      · exact apart_101r P Q X n m w bp bq bx hl ha hb hr
      · exact apart_101n P Q X n m w bp bq bx hl ha hb hr
    · by_cases hr : RightP Q m
      · exact apart_100r P Q X n m w bp bq bx hl ha hb hr
      · exact apart_100n P Q X n m w bp bq bx hl ha hb hr
  · by_cases ha : InsideP P X n <;> by_cases hb : InsideP Q X m
    · by_cases he : n = m
      · subst he
        exact apart_011eq P Q X n w bp bq bx ha hb
      · exact apart_011lt P Q X n m w bp bq bx (by omega) ha hb
    · exact apart_010x P Q X n m w bp bq bx hl ha hb
    · by_cases hr : RightP P n
      · exact apart_001r P Q X n m w bp bq bx hl ha hb hr
      · exact apart_001n P Q X n m w bp bq bx hl ha hb hr
    · by_cases hr : RightP P n
      · exact apart_000r P Q X n m w bp bq bx hl ha hb hr
      · exact apart_000n P Q X n m w bp bq bx hl ha hb hr
end Go.Proofs.Ytafonnelennlhaa
