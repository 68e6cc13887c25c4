/-
  Contracts of the reference's Embed and Extract. Conditions stand in each statement.
-/
import Derived.Test.YtafonnelennlhaaJ
namespace Go.Proofs.Ytafonnelennlhaa
open Go.RowKit
set_option linter.unusedSimpArgs false
set_option linter.unusedVariables false

section
variable {ops : Array Oper} {Q : Exit → Act → World → Prop} {md : Region.Mode} {S : World → Prop} {i fuel : Nat} {oi : Oper} {rs : List Nat} {listed : Array Bool} {a : Act} {w : World}
theorem br_cell {W : World} {l : List Row} (M : Mem W w l) (k : Nat) (ho : ops[i]? = some oi) (hw : Region.wanted oi (yielded ops a.tmps) = true) (ty : TypeId) (x y : Operand) (hop : oi.op = .store ty x y) (hd : oi.dst = none)
    {g : Nat} {t : TypeId} {old : Array Value} (hl : l[k]? = some (g, t, old)) (j : Nat) (hx : a.eval x = .pointer (some ⟨g, j, none⟩)) (v : Value) (hy : a.eval y = v)
    (hi : (Try.prog.info? ty).map (·.size) = some 1) (hlt : decide (j < old.size) = true) (h1 : v.oneCell' = true) (hc : v.cells = #[v]) (new : Array Value) (hn : old.setIfInBounds j v = new)
    (l' : List Row) (hs' : l.set k (g, t, new) = l') (hS : ∀ w', Mem W w' l' → S w')
    (h : ∀ w', Mem W w' l' → wpAnyH Try.prog md ops Q S fuel (listed.setIfInBounds i true) a w')
    (hs : AllReadyH Try.prog md ops Q S fuel listed a w rs) : AllReadyH Try.prog md ops Q S fuel listed a w (i :: rs) := by
  refine AllReadyH.cons ho (fun K hK => ?_) hs
  rw [if_pos hw]
  have B := M.row hl
  unfold Oper.wp execOp
  simp only [hop, hx, hy, Instr.storeAt, Instr.sureAddr, Sem.run_bind, Sem.run_pure, Result.andThen_ok, run_storeVar_one w g j t ty old v B hi (of_decide_eq_true hlt) h1 hc]
  have M' : Mem W (w.setRow g (old.setIfInBounds j v)) l' := by
    rw [← hs']
    refine M.st hl (Oth.setRow w g _) ?_
    rw [hn]
    exact setRow_heap w g old new t _ B
  show K (a.put oi.dst undef) _
  rw [hd]
  exact hK.out _ _ (hS _ M') (fun _ => h _ M')
end
theorem hide_w {W w : World} {l : List Row} {c : Code} {Q : Exit → Act → World → Prop} {a : Act} (M : Mem W w l) (h : ∀ w', Mem W w' l → c.wp Try.prog Q a w') : c.wp Try.prog Q a w := h w M

set_option maxRecDepth 100000 in
set_option maxHeartbeats 4000000 in
theorem rembed_f {P : Nat → Int} {n : Int} (h : ¬ RightP P n) (A : Nat → Int) (w : World) : Calls Try.prog 16 #[net P n, .agg (a4 A)] w fun e w' => e = .returned (.tuple #[.agg (a16 zero), .bool false]) ∧ Below w.heap.size w w' := by
  have c18 := fun w => rright_f P n w h
  clear h
  go_enter Try.func16, Try.ntmps16
  go_upto_region 1 with fail
  refine hide_w (Mem.three w 26 31 23 #[.int .u8 (P 0), .int .u8 (P 1), .int .u8 (P 2), .int .u8 (P 3), .int .u8 (P 4), .int .u8 (P 5), .int .u8 (P 6), .int .u8 (P 7), .int .u8 (P 8), .int .u8 (P 9), .int .u8 (P 10), .int .u8 (P 11), .int .u8 (P 12), .int .u8 (P 13), .int .u8 (P 14), .int .u8 (P 15), .int .i64 n] (a4 A) #[.int .u8 0, .int .u8 0, .int .u8 0, .int .u8 0, .int .u8 0, .int .u8 0, .int .u8 0, .int .u8 0, .int .u8 0, .int .u8 0, .int .u8 0, .int .u8 0, .int .u8 0, .int .u8 0, .int .u8 0, .int .u8 0]) (fun w0 M0 => ?_)
  refine wp_region_lit ?_
  refine lv (by kernel_rfl) (some 7) rfl (v := ?_) ?_ ?_
  rotate_left
  · go_simp; try with_reducible rfl
  try simp only [Act.put, List.setIfInBounds_toArray, List.set_cons_zero, List.set_cons_succ]
  refine ly M0 (some 8) rfl (yi_part 0 23 (.tmp 7) rfl rfl rfl 0 rfl (a16 P) Try.underlying23 rfl (by kernel_rfl) (by kernel_rfl)) ?_
  try simp only [Act.put, List.setIfInBounds_toArray, List.set_cons_zero, List.set_cons_succ]
  refine l_alloc rfl (some 6) rfl #[.int .u8 0, .int .u8 0, .int .u8 0, .int .u8 0, .int .u8 0, .int .u8 0, .int .u8 0, .int .u8 0, .int .u8 0, .int .u8 0, .int .u8 0, .int .u8 0, .int .u8 0, .int .u8 0, .int .u8 0, .int .u8 0] 23 (by kernel_rfl) ?_
  have M1 := M0.new rfl 23 #[.int .u8 0, .int .u8 0, .int .u8 0, .int .u8 0, .int .u8 0, .int .u8 0, .int .u8 0, .int .u8 0, .int .u8 0, .int .u8 0, .int .u8 0, .int .u8 0, .int .u8 0, .int .u8 0, .int .u8 0, .int .u8 0]
  clear M0
  try simp only [List.cons_append, List.nil_append, List.set_cons_zero, List.set_cons_succ] at M1
  try simp only [Act.put, List.setIfInBounds_toArray, List.set_cons_zero, List.set_cons_succ]
  refine l_store M1 3 rfl 23 (.tmp 6) _ rfl rfl rfl rfl _ rfl (by kernel_rfl) (by rfl) (by kernel_rfl) _ rfl (fun s2 M2 => ?_)
  clear M1
  try simp only [List.cons_append, List.nil_append, List.set_cons_zero, List.set_cons_succ] at M2
  try simp only [Act.put, List.setIfInBounds_toArray, List.set_cons_zero, List.set_cons_succ]
  refine wpList_nil ?_
  go_upto_region 2 with fail
  refine wp_region_lit ?_
  refine ly M2 (some 9) rfl (yi_row 0 26 (.tmp 2) rfl rfl rfl rfl Try.underlying26 rfl (by kernel_rfl)) ?_
  try simp only [Act.put, List.setIfInBounds_toArray, List.set_cons_zero, List.set_cons_succ]
  refine l_call rfl (some 10) rfl (c18 _) (by kernel_rfl) (fun s3 hb3 => ?_)
  have M3 := M2.call hb3
  clear hb3 M2
  try simp only [Act.put, List.setIfInBounds_toArray, List.set_cons_zero, List.set_cons_succ]
  refine lv (by kernel_rfl) (some 11) rfl (v := ?_) ?_ ?_
  rotate_left
  · go_simp; try with_reducible rfl
  try simp only [Act.put, List.setIfInBounds_toArray, List.set_cons_zero, List.set_cons_succ]
  refine wpList_nil ?_
  go_upto_region 3 with fail
  refine wp_region_lit ?_
  refine lv (by kernel_rfl) (some 12) rfl (v := ?_) ?_ ?_
  rotate_left
  · go_simp; try with_reducible rfl
  try simp only [Act.put, List.setIfInBounds_toArray, List.set_cons_zero, List.set_cons_succ]
  refine l_store M3 2 rfl 23 (.tmp 4) _ rfl rfl rfl rfl _ rfl (by kernel_rfl) (by rfl) (by kernel_rfl) _ rfl (fun s4 M4 => ?_)
  clear M3
  try simp only [List.cons_append, List.nil_append, List.set_cons_zero, List.set_cons_succ] at M4
  try simp only [Act.put, List.setIfInBounds_toArray, List.set_cons_zero, List.set_cons_succ]
  refine lv (by kernel_rfl) (some 5) rfl (v := ?_) ?_ ?_
  rotate_left
  · go_simp; try with_reducible rfl
  try simp only [Act.put, List.setIfInBounds_toArray, List.set_cons_zero, List.set_cons_succ]
  refine wpList_nil ?_
  go_wp2_with fail
  exact bodyPost_ret (v := .tuple #[.agg (a16 zero), .bool false]) (results_cell_tmp rfl (M4.row (i := 2) rfl) _ rfl _ rfl Try.underlying23 rfl (by kernel_rfl)) rfl ⟨rfl, M4.below⟩
set_option maxRecDepth 100000 in
set_option maxHeartbeats 4000000 in
theorem rextract_f {P X : Nat → Int} {n : Int} (h : ¬ InsideP P X n) (w : World) : Calls Try.prog 17 #[net P n, .agg (a16 X)] w fun e w' => e = .returned (.tuple #[.agg (a4 zero), .bool false]) ∧ Below w.heap.size w w' := by
  have c20 := fun w => rinside_any P X n w false (by simp [h])
  clear h
  go_enter Try.func17, Try.ntmps17
  go_upto_region 1 with fail
  refine hide_w (Mem.three w 26 23 31 #[.int .u8 (P 0), .int .u8 (P 1), .int .u8 (P 2), .int .u8 (P 3), .int .u8 (P 4), .int .u8 (P 5), .int .u8 (P 6), .int .u8 (P 7), .int .u8 (P 8), .int .u8 (P 9), .int .u8 (P 10), .int .u8 (P 11), .int .u8 (P 12), .int .u8 (P 13), .int .u8 (P 14), .int .u8 (P 15), .int .i64 n] (a16 X) #[.int .u8 0, .int .u8 0, .int .u8 0, .int .u8 0]) (fun w0 M0 => ?_)
  refine wp_region_lit ?_
  refine ly M0 (some 6) rfl (yi_row 0 26 (.tmp 2) rfl rfl rfl rfl Try.underlying26 rfl (by kernel_rfl)) ?_
  try simp only [Act.put, List.setIfInBounds_toArray, List.set_cons_zero, List.set_cons_succ]
  refine ly M0 (some 7) rfl (yi_row 1 23 (.tmp 3) rfl rfl rfl rfl Try.underlying23 rfl (by kernel_rfl)) ?_
  try simp only [Act.put, List.setIfInBounds_toArray, List.set_cons_zero, List.set_cons_succ]
  refine l_call rfl (some 8) rfl (c20 _) (by kernel_rfl) (fun s1 hb1 => ?_)
  have M1 := M0.call hb1
  clear hb1 M0
  try simp only [Act.put, List.setIfInBounds_toArray, List.set_cons_zero, List.set_cons_succ]
  refine lv (by kernel_rfl) (some 9) rfl (v := ?_) ?_ ?_
  rotate_left
  · go_simp; try with_reducible rfl
  try simp only [Act.put, List.setIfInBounds_toArray, List.set_cons_zero, List.set_cons_succ]
  refine lv (by kernel_rfl) (some 10) rfl (v := ?_) ?_ ?_
  rotate_left
  · go_simp; try with_reducible rfl
  try simp only [Act.put, List.setIfInBounds_toArray, List.set_cons_zero, List.set_cons_succ]
  with_reducible refine lu (by kernel_rfl) (some 11) rfl ?_
  try simp only [Act.put, List.setIfInBounds_toArray, List.set_cons_zero, List.set_cons_succ]
  with_reducible refine lu (by kernel_rfl) (some 12) rfl ?_
  try simp only [Act.put, List.setIfInBounds_toArray, List.set_cons_zero, List.set_cons_succ]
  with_reducible refine lu (by kernel_rfl) (some 13) rfl ?_
  try simp only [Act.put, List.setIfInBounds_toArray, List.set_cons_zero, List.set_cons_succ]
  refine lv (by kernel_rfl) (some 14) rfl (v := ?_) ?_ ?_
  rotate_left
  · go_simp; try with_reducible rfl
  try simp only [Act.put, List.setIfInBounds_toArray, List.set_cons_zero, List.set_cons_succ]
  refine wpList_nil ?_
  go_upto_region 2 with fail
  refine wp_region_lit ?_
  refine lv (by kernel_rfl) (some 15) rfl (v := ?_) ?_ ?_
  rotate_left
  · go_simp; try with_reducible rfl
  try simp only [Act.put, List.setIfInBounds_toArray, List.set_cons_zero, List.set_cons_succ]
  refine l_store M1 2 rfl 31 (.tmp 4) _ rfl rfl rfl rfl _ rfl (by kernel_rfl) (by rfl) (by kernel_rfl) _ rfl (fun s2 M2 => ?_)
  clear M1
  try simp only [List.cons_append, List.nil_append, List.set_cons_zero, List.set_cons_succ] at M2
  try simp only [Act.put, List.setIfInBounds_toArray, List.set_cons_zero, List.set_cons_succ]
  refine lv (by kernel_rfl) (some 5) rfl (v := ?_) ?_ ?_
  rotate_left
  · go_simp; try with_reducible rfl
  try simp only [Act.put, List.setIfInBounds_toArray, List.set_cons_zero, List.set_cons_succ]
  refine wpList_nil ?_
  go_wp2_with fail
  exact bodyPost_ret (v := .tuple #[.agg (a4 zero), .bool false]) (results_cell_tmp rfl (M2.row (i := 2) rfl) _ rfl _ rfl Try.underlying31 rfl (by kernel_rfl)) rfl ⟨rfl, M2.below⟩
set_option maxRecDepth 100000 in
set_option maxHeartbeats 4000000 in
theorem rextract_8 {P X : Nat → Int} {n : Int} (h : InsideP P X n) (h8 : X 8 ≠ 0) (w : World) : Calls Try.prog 17 #[net P n, .agg (a16 X)] w fun e w' => e = .returned (.tuple #[.agg (a4 zero), .bool false]) ∧ Below w.heap.size w w' := by
  have c20 := fun w => rinside_any P X n w true (by simp [h])
  have t8 : (X 8 != 0) = true := by simp [h8]
  clear h h8
  go_enter Try.func17, Try.ntmps17
  go_upto_region 1 with fail
  refine hide_w (Mem.three w 26 23 31 #[.int .u8 (P 0), .int .u8 (P 1), .int .u8 (P 2), .int .u8 (P 3), .int .u8 (P 4), .int .u8 (P 5), .int .u8 (P 6), .int .u8 (P 7), .int .u8 (P 8), .int .u8 (P 9), .int .u8 (P 10), .int .u8 (P 11), .int .u8 (P 12), .int .u8 (P 13), .int .u8 (P 14), .int .u8 (P 15), .int .i64 n] (a16 X) #[.int .u8 0, .int .u8 0, .int .u8 0, .int .u8 0]) (fun w0 M0 => ?_)
  refine wp_region_lit ?_
  refine ly M0 (some 6) rfl (yi_row 0 26 (.tmp 2) rfl rfl rfl rfl Try.underlying26 rfl (by kernel_rfl)) ?_
  try simp only [Act.put, List.setIfInBounds_toArray, List.set_cons_zero, List.set_cons_succ]
  refine ly M0 (some 7) rfl (yi_row 1 23 (.tmp 3) rfl rfl rfl rfl Try.underlying23 rfl (by kernel_rfl)) ?_
  try simp only [Act.put, List.setIfInBounds_toArray, List.set_cons_zero, List.set_cons_succ]
  refine l_call rfl (some 8) rfl (c20 _) (by kernel_rfl) (fun s1 hb1 => ?_)
  have M1 := M0.call hb1
  clear hb1 M0
  try simp only [Act.put, List.setIfInBounds_toArray, List.set_cons_zero, List.set_cons_succ]
  refine lv (by kernel_rfl) (some 9) rfl (v := ?_) ?_ ?_
  rotate_left
  · go_simp; try with_reducible rfl
  try simp only [Act.put, List.setIfInBounds_toArray, List.set_cons_zero, List.set_cons_succ]
  refine lv (by kernel_rfl) (some 10) rfl (v := ?_) ?_ ?_
  rotate_left
  · go_simp; try with_reducible rfl
  try simp only [Act.put, List.setIfInBounds_toArray, List.set_cons_zero, List.set_cons_succ]
  refine lv (by kernel_rfl) (some 11) rfl (v := ?_) ?_ ?_
  rotate_left
  · go_simp; try with_reducible rfl
  try simp only [Act.put, List.setIfInBounds_toArray, List.set_cons_zero, List.set_cons_succ]
  refine ly M1 (some 12) rfl (yi_cell 1 5 (.tmp 11) rfl rfl rfl _ rfl _ Try.underlying5 rfl) ?_
  try simp only [Act.put, List.setIfInBounds_toArray, List.set_cons_zero, List.set_cons_succ]
  refine lv (by kernel_rfl) (some 13) rfl (v := ?_) ?_ ?_
  rotate_left
  · go_simp; try with_reducible rfl
  try simp only [Act.put, List.setIfInBounds_toArray, List.set_cons_zero, List.set_cons_succ]
  refine lv (by kernel_rfl) (some 14) rfl (v := ?_) ?_ ?_
  rotate_left
  · go_simp; try with_reducible rfl
  try simp only [Act.put, List.setIfInBounds_toArray, List.set_cons_zero, List.set_cons_succ]
  refine wpList_nil ?_
  go_upto_region 2 with fail
  refine wp_region_lit ?_
  refine lv (by kernel_rfl) (some 15) rfl (v := ?_) ?_ ?_
  rotate_left
  · go_simp; try with_reducible rfl
  try simp only [Act.put, List.setIfInBounds_toArray, List.set_cons_zero, List.set_cons_succ]
  refine l_store M1 2 rfl 31 (.tmp 4) _ rfl rfl rfl rfl _ rfl (by kernel_rfl) (by rfl) (by kernel_rfl) _ rfl (fun s2 M2 => ?_)
  clear M1
  try simp only [List.cons_append, List.nil_append, List.set_cons_zero, List.set_cons_succ] at M2
  try simp only [Act.put, List.setIfInBounds_toArray, List.set_cons_zero, List.set_cons_succ]
  refine lv (by kernel_rfl) (some 5) rfl (v := ?_) ?_ ?_
  rotate_left
  · go_simp; try with_reducible rfl
  try simp only [Act.put, List.setIfInBounds_toArray, List.set_cons_zero, List.set_cons_succ]
  refine wpList_nil ?_
  go_wp2_with fail
  exact bodyPost_ret (v := .tuple #[.agg (a4 zero), .bool false]) (results_cell_tmp rfl (M2.row (i := 2) rfl) _ rfl _ rfl Try.underlying31 rfl (by kernel_rfl)) rfl ⟨rfl, M2.below⟩
set_option maxRecDepth 100000 in
set_option maxHeartbeats 4000000 in
theorem rembed_32 (P A : Nat → Int) (w : World) (h : RightP P 32) : Calls Try.prog 16 #[net P 32, .agg (a4 A)] w fun e w' => e = .returned (.tuple #[.agg #[.int .u8 (P 0), .int .u8 (P 1), .int .u8 (P 2), .int .u8 (P 3), .int .u8 (A 0), .int .u8 (A 1), .int .u8 (A 2), .int .u8 (A 3), .int .u8 (P 8), .int .u8 (P 9), .int .u8 (P 10), .int .u8 (P 11), .int .u8 (P 12), .int .u8 (P 13), .int .u8 (P 14), .int .u8 (P 15)], .bool true]) ∧ Below w.heap.size w w' := by
  have c18 := fun w => rright_t P 32 w h
  clear h
  go_enter Try.func16, Try.ntmps16
  go_upto_region 1 with fail
  refine hide_w (Mem.three w 26 31 23 #[.int .u8 (P 0), .int .u8 (P 1), .int .u8 (P 2), .int .u8 (P 3), .int .u8 (P 4), .int .u8 (P 5), .int .u8 (P 6), .int .u8 (P 7), .int .u8 (P 8), .int .u8 (P 9), .int .u8 (P 10), .int .u8 (P 11), .int .u8 (P 12), .int .u8 (P 13), .int .u8 (P 14), .int .u8 (P 15), .int .i64 32] (a4 A) #[.int .u8 0, .int .u8 0, .int .u8 0, .int .u8 0, .int .u8 0, .int .u8 0, .int .u8 0, .int .u8 0, .int .u8 0, .int .u8 0, .int .u8 0, .int .u8 0, .int .u8 0, .int .u8 0, .int .u8 0, .int .u8 0]) (fun w0 M0 => ?_)
  refine wp_region_lit ?_
  refine lv (by kernel_rfl) (some 7) rfl (v := ?_) ?_ ?_
  rotate_left
  · go_simp; try with_reducible rfl
  try simp only [Act.put, List.setIfInBounds_toArray, List.set_cons_zero, List.set_cons_succ]
  refine ly M0 (some 8) rfl (yi_part 0 23 (.tmp 7) rfl rfl rfl 0 rfl (a16 P) Try.underlying23 rfl (by kernel_rfl) (by kernel_rfl)) ?_
  try simp only [Act.put, List.setIfInBounds_toArray, List.set_cons_zero, List.set_cons_succ]
  refine l_alloc rfl (some 6) rfl #[.int .u8 0, .int .u8 0, .int .u8 0, .int .u8 0, .int .u8 0, .int .u8 0, .int .u8 0, .int .u8 0, .int .u8 0, .int .u8 0, .int .u8 0, .int .u8 0, .int .u8 0, .int .u8 0, .int .u8 0, .int .u8 0] 23 (by kernel_rfl) ?_
  have M1 := M0.new rfl 23 #[.int .u8 0, .int .u8 0, .int .u8 0, .int .u8 0, .int .u8 0, .int .u8 0, .int .u8 0, .int .u8 0, .int .u8 0, .int .u8 0, .int .u8 0, .int .u8 0, .int .u8 0, .int .u8 0, .int .u8 0, .int .u8 0]
  clear M0
  try simp only [List.cons_append, List.nil_append, List.set_cons_zero, List.set_cons_succ] at M1
  try simp only [Act.put, List.setIfInBounds_toArray, List.set_cons_zero, List.set_cons_succ]
  refine l_store M1 3 rfl 23 (.tmp 6) _ rfl rfl rfl rfl _ rfl (by kernel_rfl) (by rfl) (by kernel_rfl) _ rfl (fun s2 M2 => ?_)
  clear M1
  try simp only [List.cons_append, List.nil_append, List.set_cons_zero, List.set_cons_succ] at M2
  try simp only [Act.put, List.setIfInBounds_toArray, List.set_cons_zero, List.set_cons_succ]
  refine wpList_nil ?_
  go_upto_region 2 with fail
  refine wp_region_lit ?_
  refine ly M2 (some 9) rfl (yi_row 0 26 (.tmp 2) rfl rfl rfl rfl Try.underlying26 rfl (by kernel_rfl)) ?_
  try simp only [Act.put, List.setIfInBounds_toArray, List.set_cons_zero, List.set_cons_succ]
  refine l_call rfl (some 10) rfl (c18 _) (by kernel_rfl) (fun s3 hb3 => ?_)
  have M3 := M2.call hb3
  clear hb3 M2
  try simp only [Act.put, List.setIfInBounds_toArray, List.set_cons_zero, List.set_cons_succ]
  refine lv (by kernel_rfl) (some 11) rfl (v := ?_) ?_ ?_
  rotate_left
  · go_simp; try with_reducible rfl
  try simp only [Act.put, List.setIfInBounds_toArray, List.set_cons_zero, List.set_cons_succ]
  refine wpList_nil ?_
  go_upto_region 4 with fail
  refine wp_region_lit ?_
  refine lv (by kernel_rfl) (some 13) rfl (v := ?_) ?_ ?_
  rotate_left
  · go_simp; try with_reducible rfl
  try simp only [Act.put, List.setIfInBounds_toArray, List.set_cons_zero, List.set_cons_succ]
  refine ly M3 (some 14) rfl (yi_cell 0 3 (.tmp 13) rfl rfl rfl _ rfl _ Try.underlying3 rfl) ?_
  try simp only [Act.put, List.setIfInBounds_toArray, List.set_cons_zero, List.set_cons_succ]
  refine wpList_nil ?_
  go_upto_region 5 with fail
  refine wp_region_lit ?_
  refine lv (by kernel_rfl) (some 16) rfl (v := ?_) ?_ ?_
  rotate_left
  · go_simp; try with_reducible rfl
  try simp only [Act.put, List.setIfInBounds_toArray, List.set_cons_zero, List.set_cons_succ]
  refine lv (by kernel_rfl) (some 15) rfl (v := ?_) ?_ ?_
  rotate_left
  · go_simp; try with_reducible rfl
  try simp only [Act.put, List.setIfInBounds_toArray, List.set_cons_zero, List.set_cons_succ]
  refine wpList_nil ?_
  go_upto_region 6 with fail
  refine wp_region_held_drew (S := fun w' => Mem w w' [(w.heap.size, 26, #[.int .u8 (P 0), .int .u8 (P 1), .int .u8 (P 2), .int .u8 (P 3), .int .u8 (P 4), .int .u8 (P 5), .int .u8 (P 6), .int .u8 (P 7), .int .u8 (P 8), .int .u8 (P 9), .int .u8 (P 10), .int .u8 (P 11), .int .u8 (P 12), .int .u8 (P 13), .int .u8 (P 14), .int .u8 (P 15), .int .i64 32]), (w.heap.size + 1, 31, a4 A), (w.heap.size + 1 + 1, 23, #[.int .u8 0, .int .u8 0, .int .u8 0, .int .u8 0, .int .u8 0, .int .u8 0, .int .u8 0, .int .u8 0, .int .u8 0, .int .u8 0, .int .u8 0, .int .u8 0, .int .u8 0, .int .u8 0, .int .u8 0, .int .u8 0])]) (by kernel_rfl) (Mem.init (l := [(w.heap.size, 26, #[.int .u8 (P 0), .int .u8 (P 1), .int .u8 (P 2), .int .u8 (P 3), .int .u8 (P 4), .int .u8 (P 5), .int .u8 (P 6), .int .u8 (P 7), .int .u8 (P 8), .int .u8 (P 9), .int .u8 (P 10), .int .u8 (P 11), .int .u8 (P 12), .int .u8 (P 13), .int .u8 (P 14), .int .u8 (P 15), .int .i64 32]), (w.heap.size + 1, 31, a4 A), (w.heap.size + 1 + 1, 23, #[.int .u8 0, .int .u8 0, .int .u8 0, .int .u8 0, .int .u8 0, .int .u8 0, .int .u8 0, .int .u8 0, .int .u8 0, .int .u8 0, .int .u8 0, .int .u8 0, .int .u8 0, .int .u8 0, .int .u8 0, .int .u8 0])]) M3.drew) (fun _ => ?_)
  have M4 := M3.drew
  refine tk (i := 0) (v := ?_) rfl (some 17) rfl (by kernel_rfl) (by kernel_rfl) (by kernel_rfl) (fun _ _ _ h => h) (Or.inl ⟨by kernel_rfl, ?_⟩) (Mem.init (l := [(w.heap.size, 26, #[.int .u8 (P 0), .int .u8 (P 1), .int .u8 (P 2), .int .u8 (P 3), .int .u8 (P 4), .int .u8 (P 5), .int .u8 (P 6), .int .u8 (P 7), .int .u8 (P 8), .int .u8 (P 9), .int .u8 (P 10), .int .u8 (P 11), .int .u8 (P 12), .int .u8 (P 13), .int .u8 (P 14), .int .u8 (P 15), .int .i64 32]), (w.heap.size + 1, 31, a4 A), (w.heap.size + 1 + 1, 23, #[.int .u8 0, .int .u8 0, .int .u8 0, .int .u8 0, .int .u8 0, .int .u8 0, .int .u8 0, .int .u8 0, .int .u8 0, .int .u8 0, .int .u8 0, .int .u8 0, .int .u8 0, .int .u8 0, .int .u8 0, .int .u8 0])]) M4) ?_
  rotate_left
  · intro w hS; go_simp; try with_reducible rfl
  try simp only [Act.put, List.setIfInBounds_toArray, List.set_cons_zero, List.set_cons_succ]
  refine tk (i := 1) rfl (some 18) rfl (by kernel_rfl) (by kernel_rfl) (by kernel_rfl) (fun _ _ _ h => h) (yi_cell 1 5 (.tmp 17) rfl rfl rfl _ rfl _ Try.underlying5 rfl) (Mem.init (l := [(w.heap.size, 26, #[.int .u8 (P 0), .int .u8 (P 1), .int .u8 (P 2), .int .u8 (P 3), .int .u8 (P 4), .int .u8 (P 5), .int .u8 (P 6), .int .u8 (P 7), .int .u8 (P 8), .int .u8 (P 9), .int .u8 (P 10), .int .u8 (P 11), .int .u8 (P 12), .int .u8 (P 13), .int .u8 (P 14), .int .u8 (P 15), .int .i64 32]), (w.heap.size + 1, 31, a4 A), (w.heap.size + 1 + 1, 23, #[.int .u8 0, .int .u8 0, .int .u8 0, .int .u8 0, .int .u8 0, .int .u8 0, .int .u8 0, .int .u8 0, .int .u8 0, .int .u8 0, .int .u8 0, .int .u8 0, .int .u8 0, .int .u8 0, .int .u8 0, .int .u8 0])]) M4) ?_
  try simp only [Act.put, List.setIfInBounds_toArray, List.set_cons_zero, List.set_cons_succ]
  refine tk (i := 2) (v := ?_) rfl (some 19) rfl (by kernel_rfl) (by kernel_rfl) (by kernel_rfl) (fun _ _ _ h => h) (Or.inl ⟨by kernel_rfl, ?_⟩) (Mem.init (l := [(w.heap.size, 26, #[.int .u8 (P 0), .int .u8 (P 1), .int .u8 (P 2), .int .u8 (P 3), .int .u8 (P 4), .int .u8 (P 5), .int .u8 (P 6), .int .u8 (P 7), .int .u8 (P 8), .int .u8 (P 9), .int .u8 (P 10), .int .u8 (P 11), .int .u8 (P 12), .int .u8 (P 13), .int .u8 (P 14), .int .u8 (P 15), .int .i64 32]), (w.heap.size + 1, 31, a4 A), (w.heap.size + 1 + 1, 23, #[.int .u8 0, .int .u8 0, .int .u8 0, .int .u8 0, .int .u8 0, .int .u8 0, .int .u8 0, .int .u8 0, .int .u8 0, .int .u8 0, .int .u8 0, .int .u8 0, .int .u8 0, .int .u8 0, .int .u8 0, .int .u8 0])]) M4) ?_
  rotate_left
  · intro w hS; go_simp; try with_reducible rfl
  try simp only [Act.put, List.setIfInBounds_toArray, List.set_cons_zero, List.set_cons_succ]
  refine tk (i := 3) rfl (some 20) rfl (by kernel_rfl) (by kernel_rfl) (by kernel_rfl) (fun _ _ _ h => h) (yi_cell 1 5 (.tmp 19) rfl rfl rfl _ rfl _ Try.underlying5 rfl) (Mem.init (l := [(w.heap.size, 26, #[.int .u8 (P 0), .int .u8 (P 1), .int .u8 (P 2), .int .u8 (P 3), .int .u8 (P 4), .int .u8 (P 5), .int .u8 (P 6), .int .u8 (P 7), .int .u8 (P 8), .int .u8 (P 9), .int .u8 (P 10), .int .u8 (P 11), .int .u8 (P 12), .int .u8 (P 13), .int .u8 (P 14), .int .u8 (P 15), .int .i64 32]), (w.heap.size + 1, 31, a4 A), (w.heap.size + 1 + 1, 23, #[.int .u8 0, .int .u8 0, .int .u8 0, .int .u8 0, .int .u8 0, .int .u8 0, .int .u8 0, .int .u8 0, .int .u8 0, .int .u8 0, .int .u8 0, .int .u8 0, .int .u8 0, .int .u8 0, .int .u8 0, .int .u8 0])]) M4) ?_
  try simp only [Act.put, List.setIfInBounds_toArray, List.set_cons_zero, List.set_cons_succ]
  refine tk (i := 4) (v := ?_) rfl (some 21) rfl (by kernel_rfl) (by kernel_rfl) (by kernel_rfl) (fun _ _ _ h => h) (Or.inl ⟨by kernel_rfl, ?_⟩) (Mem.init (l := [(w.heap.size, 26, #[.int .u8 (P 0), .int .u8 (P 1), .int .u8 (P 2), .int .u8 (P 3), .int .u8 (P 4), .int .u8 (P 5), .int .u8 (P 6), .int .u8 (P 7), .int .u8 (P 8), .int .u8 (P 9), .int .u8 (P 10), .int .u8 (P 11), .int .u8 (P 12), .int .u8 (P 13), .int .u8 (P 14), .int .u8 (P 15), .int .i64 32]), (w.heap.size + 1, 31, a4 A), (w.heap.size + 1 + 1, 23, #[.int .u8 0, .int .u8 0, .int .u8 0, .int .u8 0, .int .u8 0, .int .u8 0, .int .u8 0, .int .u8 0, .int .u8 0, .int .u8 0, .int .u8 0, .int .u8 0, .int .u8 0, .int .u8 0, .int .u8 0, .int .u8 0])]) M4) ?_
  rotate_left
  · intro w hS; go_simp; try with_reducible rfl
  try simp only [Act.put, List.setIfInBounds_toArray, List.set_cons_zero, List.set_cons_succ]
  refine tk (i := 5) rfl (some 22) rfl (by kernel_rfl) (by kernel_rfl) (by kernel_rfl) (fun _ _ _ h => h) (yi_cell 1 5 (.tmp 21) rfl rfl rfl _ rfl _ Try.underlying5 rfl) (Mem.init (l := [(w.heap.size, 26, #[.int .u8 (P 0), .int .u8 (P 1), .int .u8 (P 2), .int .u8 (P 3), .int .u8 (P 4), .int .u8 (P 5), .int .u8 (P 6), .int .u8 (P 7), .int .u8 (P 8), .int .u8 (P 9), .int .u8 (P 10), .int .u8 (P 11), .int .u8 (P 12), .int .u8 (P 13), .int .u8 (P 14), .int .u8 (P 15), .int .i64 32]), (w.heap.size + 1, 31, a4 A), (w.heap.size + 1 + 1, 23, #[.int .u8 0, .int .u8 0, .int .u8 0, .int .u8 0, .int .u8 0, .int .u8 0, .int .u8 0, .int .u8 0, .int .u8 0, .int .u8 0, .int .u8 0, .int .u8 0, .int .u8 0, .int .u8 0, .int .u8 0, .int .u8 0])]) M4) ?_
  try simp only [Act.put, List.setIfInBounds_toArray, List.set_cons_zero, List.set_cons_succ]
  refine tk (i := 6) (v := ?_) rfl (some 23) rfl (by kernel_rfl) (by kernel_rfl) (by kernel_rfl) (fun _ _ _ h => h) (Or.inl ⟨by kernel_rfl, ?_⟩) (Mem.init (l := [(w.heap.size, 26, #[.int .u8 (P 0), .int .u8 (P 1), .int .u8 (P 2), .int .u8 (P 3), .int .u8 (P 4), .int .u8 (P 5), .int .u8 (P 6), .int .u8 (P 7), .int .u8 (P 8), .int .u8 (P 9), .int .u8 (P 10), .int .u8 (P 11), .int .u8 (P 12), .int .u8 (P 13), .int .u8 (P 14), .int .u8 (P 15), .int .i64 32]), (w.heap.size + 1, 31, a4 A), (w.heap.size + 1 + 1, 23, #[.int .u8 0, .int .u8 0, .int .u8 0, .int .u8 0, .int .u8 0, .int .u8 0, .int .u8 0, .int .u8 0, .int .u8 0, .int .u8 0, .int .u8 0, .int .u8 0, .int .u8 0, .int .u8 0, .int .u8 0, .int .u8 0])]) M4) ?_
  rotate_left
  · intro w hS; go_simp; try with_reducible rfl
  try simp only [Act.put, List.setIfInBounds_toArray, List.set_cons_zero, List.set_cons_succ]
  refine tk (i := 7) rfl (some 24) rfl (by kernel_rfl) (by kernel_rfl) (by kernel_rfl) (fun _ _ _ h => h) (yi_cell 1 5 (.tmp 23) rfl rfl rfl _ rfl _ Try.underlying5 rfl) (Mem.init (l := [(w.heap.size, 26, #[.int .u8 (P 0), .int .u8 (P 1), .int .u8 (P 2), .int .u8 (P 3), .int .u8 (P 4), .int .u8 (P 5), .int .u8 (P 6), .int .u8 (P 7), .int .u8 (P 8), .int .u8 (P 9), .int .u8 (P 10), .int .u8 (P 11), .int .u8 (P 12), .int .u8 (P 13), .int .u8 (P 14), .int .u8 (P 15), .int .i64 32]), (w.heap.size + 1, 31, a4 A), (w.heap.size + 1 + 1, 23, #[.int .u8 0, .int .u8 0, .int .u8 0, .int .u8 0, .int .u8 0, .int .u8 0, .int .u8 0, .int .u8 0, .int .u8 0, .int .u8 0, .int .u8 0, .int .u8 0, .int .u8 0, .int .u8 0, .int .u8 0, .int .u8 0])]) M4) ?_
  try simp only [Act.put, List.setIfInBounds_toArray, List.set_cons_zero, List.set_cons_succ]
  refine tk (i := 8) (v := ?_) rfl (some 25) rfl (by kernel_rfl) (by kernel_rfl) (by kernel_rfl) (fun _ _ _ h => h) (Or.inl ⟨by kernel_rfl, ?_⟩) (Mem.init (l := [(w.heap.size, 26, #[.int .u8 (P 0), .int .u8 (P 1), .int .u8 (P 2), .int .u8 (P 3), .int .u8 (P 4), .int .u8 (P 5), .int .u8 (P 6), .int .u8 (P 7), .int .u8 (P 8), .int .u8 (P 9), .int .u8 (P 10), .int .u8 (P 11), .int .u8 (P 12), .int .u8 (P 13), .int .u8 (P 14), .int .u8 (P 15), .int .i64 32]), (w.heap.size + 1, 31, a4 A), (w.heap.size + 1 + 1, 23, #[.int .u8 0, .int .u8 0, .int .u8 0, .int .u8 0, .int .u8 0, .int .u8 0, .int .u8 0, .int .u8 0, .int .u8 0, .int .u8 0, .int .u8 0, .int .u8 0, .int .u8 0, .int .u8 0, .int .u8 0, .int .u8 0])]) M4) ?_
  rotate_left
  · intro w hS; go_simp; try with_reducible rfl
  try simp only [Act.put, List.setIfInBounds_toArray, List.set_cons_zero, List.set_cons_succ]
  refine wpAnyH_ready (rs := [9]) (by kernel_rfl) (by simp) ?_
  refine br_cell M4 3 rfl (by kernel_rfl) 5 (.tmp 25) _ rfl rfl rfl _ rfl _ rfl (by kernel_rfl) (by kernel_rfl) rfl rfl #[.int .u8 (P 0), .int .u8 (P 1), .int .u8 (P 2), .int .u8 (P 3), .int .u8 (A 0), .int .u8 (P 5), .int .u8 (P 6), .int .u8 (P 7), .int .u8 (P 8), .int .u8 (P 9), .int .u8 (P 10), .int .u8 (P 11), .int .u8 (P 12), .int .u8 (P 13), .int .u8 (P 14), .int .u8 (P 15)] (by kernel_rfl) _ rfl (fun w' M' => Mem.init (l := [(w.heap.size, 26, #[.int .u8 (P 0), .int .u8 (P 1), .int .u8 (P 2), .int .u8 (P 3), .int .u8 (P 4), .int .u8 (P 5), .int .u8 (P 6), .int .u8 (P 7), .int .u8 (P 8), .int .u8 (P 9), .int .u8 (P 10), .int .u8 (P 11), .int .u8 (P 12), .int .u8 (P 13), .int .u8 (P 14), .int .u8 (P 15), .int .i64 32]), (w.heap.size + 1, 31, a4 A), (w.heap.size + 1 + 1, 23, #[.int .u8 0, .int .u8 0, .int .u8 0, .int .u8 0, .int .u8 0, .int .u8 0, .int .u8 0, .int .u8 0, .int .u8 0, .int .u8 0, .int .u8 0, .int .u8 0, .int .u8 0, .int .u8 0, .int .u8 0, .int .u8 0])]) M') (fun s5 M5 => ?_) AllReadyH.nil
  clear M4
  try simp only [List.cons_append, List.nil_append, List.set_cons_zero, List.set_cons_succ] at M5
  try simp only [Act.put, List.setIfInBounds_toArray, List.set_cons_zero, List.set_cons_succ]
  refine tk (i := 10) (v := ?_) rfl (some 26) rfl (by kernel_rfl) (by kernel_rfl) (by kernel_rfl) (fun _ _ _ h => h) (Or.inl ⟨by kernel_rfl, ?_⟩) (Mem.init (l := [(w.heap.size, 26, #[.int .u8 (P 0), .int .u8 (P 1), .int .u8 (P 2), .int .u8 (P 3), .int .u8 (P 4), .int .u8 (P 5), .int .u8 (P 6), .int .u8 (P 7), .int .u8 (P 8), .int .u8 (P 9), .int .u8 (P 10), .int .u8 (P 11), .int .u8 (P 12), .int .u8 (P 13), .int .u8 (P 14), .int .u8 (P 15), .int .i64 32]), (w.heap.size + 1, 31, a4 A), (w.heap.size + 1 + 1, 23, #[.int .u8 0, .int .u8 0, .int .u8 0, .int .u8 0, .int .u8 0, .int .u8 0, .int .u8 0, .int .u8 0, .int .u8 0, .int .u8 0, .int .u8 0, .int .u8 0, .int .u8 0, .int .u8 0, .int .u8 0, .int .u8 0])]) M5) ?_
  rotate_left
  · intro w hS; go_simp; try with_reducible rfl
  try simp only [Act.put, List.setIfInBounds_toArray, List.set_cons_zero, List.set_cons_succ]
  refine wpAnyH_ready (rs := [11]) (by kernel_rfl) (by simp) ?_
  refine br_cell M5 3 rfl (by kernel_rfl) 5 (.tmp 26) _ rfl rfl rfl _ rfl _ rfl (by kernel_rfl) (by kernel_rfl) rfl rfl #[.int .u8 (P 0), .int .u8 (P 1), .int .u8 (P 2), .int .u8 (P 3), .int .u8 (A 0), .int .u8 (A 1), .int .u8 (P 6), .int .u8 (P 7), .int .u8 (P 8), .int .u8 (P 9), .int .u8 (P 10), .int .u8 (P 11), .int .u8 (P 12), .int .u8 (P 13), .int .u8 (P 14), .int .u8 (P 15)] (by kernel_rfl) _ rfl (fun w' M' => Mem.init (l := [(w.heap.size, 26, #[.int .u8 (P 0), .int .u8 (P 1), .int .u8 (P 2), .int .u8 (P 3), .int .u8 (P 4), .int .u8 (P 5), .int .u8 (P 6), .int .u8 (P 7), .int .u8 (P 8), .int .u8 (P 9), .int .u8 (P 10), .int .u8 (P 11), .int .u8 (P 12), .int .u8 (P 13), .int .u8 (P 14), .int .u8 (P 15), .int .i64 32]), (w.heap.size + 1, 31, a4 A), (w.heap.size + 1 + 1, 23, #[.int .u8 0, .int .u8 0, .int .u8 0, .int .u8 0, .int .u8 0, .int .u8 0, .int .u8 0, .int .u8 0, .int .u8 0, .int .u8 0, .int .u8 0, .int .u8 0, .int .u8 0, .int .u8 0, .int .u8 0, .int .u8 0])]) M') (fun s6 M6 => ?_) AllReadyH.nil
  clear M5
  try simp only [List.cons_append, List.nil_append, List.set_cons_zero, List.set_cons_succ] at M6
  try simp only [Act.put, List.setIfInBounds_toArray, List.set_cons_zero, List.set_cons_succ]
  refine tk (i := 12) (v := ?_) rfl (some 27) rfl (by kernel_rfl) (by kernel_rfl) (by kernel_rfl) (fun _ _ _ h => h) (Or.inl ⟨by kernel_rfl, ?_⟩) (Mem.init (l := [(w.heap.size, 26, #[.int .u8 (P 0), .int .u8 (P 1), .int .u8 (P 2), .int .u8 (P 3), .int .u8 (P 4), .int .u8 (P 5), .int .u8 (P 6), .int .u8 (P 7), .int .u8 (P 8), .int .u8 (P 9), .int .u8 (P 10), .int .u8 (P 11), .int .u8 (P 12), .int .u8 (P 13), .int .u8 (P 14), .int .u8 (P 15), .int .i64 32]), (w.heap.size + 1, 31, a4 A), (w.heap.size + 1 + 1, 23, #[.int .u8 0, .int .u8 0, .int .u8 0, .int .u8 0, .int .u8 0, .int .u8 0, .int .u8 0, .int .u8 0, .int .u8 0, .int .u8 0, .int .u8 0, .int .u8 0, .int .u8 0, .int .u8 0, .int .u8 0, .int .u8 0])]) M6) ?_
  rotate_left
  · intro w hS; go_simp; try with_reducible rfl
  try simp only [Act.put, List.setIfInBounds_toArray, List.set_cons_zero, List.set_cons_succ]
  refine wpAnyH_ready (rs := [13]) (by kernel_rfl) (by simp) ?_
  refine br_cell M6 3 rfl (by kernel_rfl) 5 (.tmp 27) _ rfl rfl rfl _ rfl _ rfl (by kernel_rfl) (by kernel_rfl) rfl rfl #[.int .u8 (P 0), .int .u8 (P 1), .int .u8 (P 2), .int .u8 (P 3), .int .u8 (A 0), .int .u8 (A 1), .int .u8 (A 2), .int .u8 (P 7), .int .u8 (P 8), .int .u8 (P 9), .int .u8 (P 10), .int .u8 (P 11), .int .u8 (P 12), .int .u8 (P 13), .int .u8 (P 14), .int .u8 (P 15)] (by kernel_rfl) _ rfl (fun w' M' => Mem.init (l := [(w.heap.size, 26, #[.int .u8 (P 0), .int .u8 (P 1), .int .u8 (P 2), .int .u8 (P 3), .int .u8 (P 4), .int .u8 (P 5), .int .u8 (P 6), .int .u8 (P 7), .int .u8 (P 8), .int .u8 (P 9), .int .u8 (P 10), .int .u8 (P 11), .int .u8 (P 12), .int .u8 (P 13), .int .u8 (P 14), .int .u8 (P 15), .int .i64 32]), (w.heap.size + 1, 31, a4 A), (w.heap.size + 1 + 1, 23, #[.int .u8 0, .int .u8 0, .int .u8 0, .int .u8 0, .int .u8 0, .int .u8 0, .int .u8 0, .int .u8 0, .int .u8 0, .int .u8 0, .int .u8 0, .int .u8 0, .int .u8 0, .int .u8 0, .int .u8 0, .int .u8 0])]) M') (fun s7 M7 => ?_) AllReadyH.nil
  clear M6
  try simp only [List.cons_append, List.nil_append, List.set_cons_zero, List.set_cons_succ] at M7
  try simp only [Act.put, List.setIfInBounds_toArray, List.set_cons_zero, List.set_cons_succ]
  refine tk (i := 14) (v := ?_) rfl (some 28) rfl (by kernel_rfl) (by kernel_rfl) (by kernel_rfl) (fun _ _ _ h => h) (Or.inl ⟨by kernel_rfl, ?_⟩) (Mem.init (l := [(w.heap.size, 26, #[.int .u8 (P 0), .int .u8 (P 1), .int .u8 (P 2), .int .u8 (P 3), .int .u8 (P 4), .int .u8 (P 5), .int .u8 (P 6), .int .u8 (P 7), .int .u8 (P 8), .int .u8 (P 9), .int .u8 (P 10), .int .u8 (P 11), .int .u8 (P 12), .int .u8 (P 13), .int .u8 (P 14), .int .u8 (P 15), .int .i64 32]), (w.heap.size + 1, 31, a4 A), (w.heap.size + 1 + 1, 23, #[.int .u8 0, .int .u8 0, .int .u8 0, .int .u8 0, .int .u8 0, .int .u8 0, .int .u8 0, .int .u8 0, .int .u8 0, .int .u8 0, .int .u8 0, .int .u8 0, .int .u8 0, .int .u8 0, .int .u8 0, .int .u8 0])]) M7) ?_
  rotate_left
  · intro w hS; go_simp; try with_reducible rfl
  try simp only [Act.put, List.setIfInBounds_toArray, List.set_cons_zero, List.set_cons_succ]
  refine wpAnyH_ready (rs := [15]) (by kernel_rfl) (by simp) ?_
  refine br_cell M7 3 rfl (by kernel_rfl) 5 (.tmp 28) _ rfl rfl rfl _ rfl _ rfl (by kernel_rfl) (by kernel_rfl) rfl rfl #[.int .u8 (P 0), .int .u8 (P 1), .int .u8 (P 2), .int .u8 (P 3), .int .u8 (A 0), .int .u8 (A 1), .int .u8 (A 2), .int .u8 (A 3), .int .u8 (P 8), .int .u8 (P 9), .int .u8 (P 10), .int .u8 (P 11), .int .u8 (P 12), .int .u8 (P 13), .int .u8 (P 14), .int .u8 (P 15)] (by kernel_rfl) _ rfl (fun w' M' => Mem.init (l := [(w.heap.size, 26, #[.int .u8 (P 0), .int .u8 (P 1), .int .u8 (P 2), .int .u8 (P 3), .int .u8 (P 4), .int .u8 (P 5), .int .u8 (P 6), .int .u8 (P 7), .int .u8 (P 8), .int .u8 (P 9), .int .u8 (P 10), .int .u8 (P 11), .int .u8 (P 12), .int .u8 (P 13), .int .u8 (P 14), .int .u8 (P 15), .int .i64 32]), (w.heap.size + 1, 31, a4 A), (w.heap.size + 1 + 1, 23, #[.int .u8 0, .int .u8 0, .int .u8 0, .int .u8 0, .int .u8 0, .int .u8 0, .int .u8 0, .int .u8 0, .int .u8 0, .int .u8 0, .int .u8 0, .int .u8 0, .int .u8 0, .int .u8 0, .int .u8 0, .int .u8 0])]) M') (fun s8 M8 => ?_) AllReadyH.nil
  clear M7
  try simp only [List.cons_append, List.nil_append, List.set_cons_zero, List.set_cons_succ] at M8
  try simp only [Act.put, List.setIfInBounds_toArray, List.set_cons_zero, List.set_cons_succ]
  refine wpAnyH_done (by kernel_rfl) ?_ _
  go_upto_region 17 with fail
  refine wp_region_lit ?_
  refine ly M8 (some 99) rfl (yi_row 3 23 (.tmp 6) rfl rfl rfl rfl Try.underlying23 rfl (by kernel_rfl)) ?_
  try simp only [Act.put, List.setIfInBounds_toArray, List.set_cons_zero, List.set_cons_succ]
  refine l_store M8 2 rfl 23 (.tmp 4) _ rfl rfl rfl rfl _ rfl (by kernel_rfl) (by rfl) (by kernel_rfl) _ rfl (fun s9 M9 => ?_)
  clear M8
  try simp only [List.cons_append, List.nil_append, List.set_cons_zero, List.set_cons_succ] at M9
  try simp only [Act.put, List.setIfInBounds_toArray, List.set_cons_zero, List.set_cons_succ]
  refine lv (by kernel_rfl) (some 5) rfl (v := ?_) ?_ ?_
  rotate_left
  · go_simp; try with_reducible rfl
  try simp only [Act.put, List.setIfInBounds_toArray, List.set_cons_zero, List.set_cons_succ]
  refine wpList_nil ?_
  go_wp2_with fail
  exact bodyPost_ret (v := .tuple #[.agg #[.int .u8 (P 0), .int .u8 (P 1), .int .u8 (P 2), .int .u8 (P 3), .int .u8 (A 0), .int .u8 (A 1), .int .u8 (A 2), .int .u8 (A 3), .int .u8 (P 8), .int .u8 (P 9), .int .u8 (P 10), .int .u8 (P 11), .int .u8 (P 12), .int .u8 (P 13), .int .u8 (P 14), .int .u8 (P 15)], .bool true]) (results_cell_tmp rfl (M9.row (i := 2) rfl) _ rfl _ rfl Try.underlying23 rfl (by kernel_rfl)) rfl ⟨rfl, M9.below⟩
set_option maxRecDepth 100000 in
set_option maxHeartbeats 4000000 in
theorem rextract_32 (P X : Nat → Int) (w : World) (h : InsideP P X 32) (h8 : X 8 = 0) : Calls Try.prog 17 #[net P 32, .agg (a16 X)] w fun e w' => e = .returned (.tuple #[.agg #[.int .u8 (X 4), .int .u8 (X 5), .int .u8 (X 6), .int .u8 (X 7)], .bool true]) ∧ Below w.heap.size w w' := by
  have c20 := fun w => rinside_any P X 32 w true (by simp [h])
  have t8 : (X 8 != 0) = false := by simp [h8]
  clear h h8
  go_enter Try.func17, Try.ntmps17
  go_upto_region 1 with fail
  refine hide_w (Mem.three w 26 23 31 #[.int .u8 (P 0), .int .u8 (P 1), .int .u8 (P 2), .int .u8 (P 3), .int .u8 (P 4), .int .u8 (P 5), .int .u8 (P 6), .int .u8 (P 7), .int .u8 (P 8), .int .u8 (P 9), .int .u8 (P 10), .int .u8 (P 11), .int .u8 (P 12), .int .u8 (P 13), .int .u8 (P 14), .int .u8 (P 15), .int .i64 32] (a16 X) #[.int .u8 0, .int .u8 0, .int .u8 0, .int .u8 0]) (fun w0 M0 => ?_)
  refine wp_region_lit ?_
  refine ly M0 (some 6) rfl (yi_row 0 26 (.tmp 2) rfl rfl rfl rfl Try.underlying26 rfl (by kernel_rfl)) ?_
  try simp only [Act.put, List.setIfInBounds_toArray, List.set_cons_zero, List.set_cons_succ]
  refine ly M0 (some 7) rfl (yi_row 1 23 (.tmp 3) rfl rfl rfl rfl Try.underlying23 rfl (by kernel_rfl)) ?_
  try simp only [Act.put, List.setIfInBounds_toArray, List.set_cons_zero, List.set_cons_succ]
  refine l_call rfl (some 8) rfl (c20 _) (by kernel_rfl) (fun s1 hb1 => ?_)
  have M1 := M0.call hb1
  clear hb1 M0
  try simp only [Act.put, List.setIfInBounds_toArray, List.set_cons_zero, List.set_cons_succ]
  refine lv (by kernel_rfl) (some 9) rfl (v := ?_) ?_ ?_
  rotate_left
  · go_simp; try with_reducible rfl
  try simp only [Act.put, List.setIfInBounds_toArray, List.set_cons_zero, List.set_cons_succ]
  refine lv (by kernel_rfl) (some 10) rfl (v := ?_) ?_ ?_
  rotate_left
  · go_simp; try with_reducible rfl
  try simp only [Act.put, List.setIfInBounds_toArray, List.set_cons_zero, List.set_cons_succ]
  refine lv (by kernel_rfl) (some 11) rfl (v := ?_) ?_ ?_
  rotate_left
  · go_simp; try with_reducible rfl
  try simp only [Act.put, List.setIfInBounds_toArray, List.set_cons_zero, List.set_cons_succ]
  refine ly M1 (some 12) rfl (yi_cell 1 5 (.tmp 11) rfl rfl rfl _ rfl _ Try.underlying5 rfl) ?_
  try simp only [Act.put, List.setIfInBounds_toArray, List.set_cons_zero, List.set_cons_succ]
  refine lv (by kernel_rfl) (some 13) rfl (v := ?_) ?_ ?_
  rotate_left
  · go_simp; try with_reducible rfl
  try simp only [Act.put, List.setIfInBounds_toArray, List.set_cons_zero, List.set_cons_succ]
  refine lv (by kernel_rfl) (some 14) rfl (v := ?_) ?_ ?_
  rotate_left
  · go_simp; try with_reducible rfl
  try simp only [Act.put, List.setIfInBounds_toArray, List.set_cons_zero, List.set_cons_succ]
  refine wpList_nil ?_
  go_upto_region 3 with fail
  refine wp_region_lit ?_
  refine lv (by kernel_rfl) (some 16) rfl (v := ?_) ?_ ?_
  rotate_left
  · go_simp; try with_reducible rfl
  try simp only [Act.put, List.setIfInBounds_toArray, List.set_cons_zero, List.set_cons_succ]
  refine ly M1 (some 17) rfl (yi_cell 0 3 (.tmp 16) rfl rfl rfl _ rfl _ Try.underlying3 rfl) ?_
  try simp only [Act.put, List.setIfInBounds_toArray, List.set_cons_zero, List.set_cons_succ]
  refine wpList_nil ?_
  go_upto_region 4 with fail
  refine wp_region_lit ?_
  refine lv (by kernel_rfl) (some 19) rfl (v := ?_) ?_ ?_
  rotate_left
  · go_simp; try with_reducible rfl
  try simp only [Act.put, List.setIfInBounds_toArray, List.set_cons_zero, List.set_cons_succ]
  refine lv (by kernel_rfl) (some 18) rfl (v := ?_) ?_ ?_
  rotate_left
  · go_simp; try with_reducible rfl
  try simp only [Act.put, List.setIfInBounds_toArray, List.set_cons_zero, List.set_cons_succ]
  refine wpList_nil ?_
  go_upto_region 5 with fail
  refine wp_region_lit ?_
  refine lv (by kernel_rfl) (some 20) rfl (v := ?_) ?_ ?_
  rotate_left
  · go_simp; try with_reducible rfl
  try simp only [Act.put, List.setIfInBounds_toArray, List.set_cons_zero, List.set_cons_succ]
  refine ly M1 (some 21) rfl (yi_cell 1 5 (.tmp 20) rfl rfl rfl _ rfl _ Try.underlying5 rfl) ?_
  try simp only [Act.put, List.setIfInBounds_toArray, List.set_cons_zero, List.set_cons_succ]
  refine lv (by kernel_rfl) (some 22) rfl (v := ?_) ?_ ?_
  rotate_left
  · go_simp; try with_reducible rfl
  try simp only [Act.put, List.setIfInBounds_toArray, List.set_cons_zero, List.set_cons_succ]
  refine ly M1 (some 23) rfl (yi_cell 1 5 (.tmp 22) rfl rfl rfl _ rfl _ Try.underlying5 rfl) ?_
  try simp only [Act.put, List.setIfInBounds_toArray, List.set_cons_zero, List.set_cons_succ]
  refine lv (by kernel_rfl) (some 24) rfl (v := ?_) ?_ ?_
  rotate_left
  · go_simp; try with_reducible rfl
  try simp only [Act.put, List.setIfInBounds_toArray, List.set_cons_zero, List.set_cons_succ]
  refine ly M1 (some 25) rfl (yi_cell 1 5 (.tmp 24) rfl rfl rfl _ rfl _ Try.underlying5 rfl) ?_
  try simp only [Act.put, List.setIfInBounds_toArray, List.set_cons_zero, List.set_cons_succ]
  refine lv (by kernel_rfl) (some 26) rfl (v := ?_) ?_ ?_
  rotate_left
  · go_simp; try with_reducible rfl
  try simp only [Act.put, List.setIfInBounds_toArray, List.set_cons_zero, List.set_cons_succ]
  refine ly M1 (some 27) rfl (yi_cell 1 5 (.tmp 26) rfl rfl rfl _ rfl _ Try.underlying5 rfl) ?_
  try simp only [Act.put, List.setIfInBounds_toArray, List.set_cons_zero, List.set_cons_succ]
  refine lv (by kernel_rfl) (some 28) rfl (v := ?_) ?_ ?_
  rotate_left
  · go_simp; try with_reducible rfl
  try simp only [Act.put, List.setIfInBounds_toArray, List.set_cons_zero, List.set_cons_succ]
  refine l_store M1 2 rfl 31 (.tmp 4) _ rfl rfl rfl rfl _ rfl (by kernel_rfl) (by rfl) (by kernel_rfl) _ rfl (fun s2 M2 => ?_)
  clear M1
  try simp only [List.cons_append, List.nil_append, List.set_cons_zero, List.set_cons_succ] at M2
  try simp only [Act.put, List.setIfInBounds_toArray, List.set_cons_zero, List.set_cons_succ]
  refine lv (by kernel_rfl) (some 5) rfl (v := ?_) ?_ ?_
  rotate_left
  · go_simp; try with_reducible rfl
  try simp only [Act.put, List.setIfInBounds_toArray, List.set_cons_zero, List.set_cons_succ]
  refine wpList_nil ?_
  go_wp2_with fail
  exact bodyPost_ret (v := .tuple #[.agg #[.int .u8 (X 4), .int .u8 (X 5), .int .u8 (X 6), .int .u8 (X 7)], .bool true]) (results_cell_tmp rfl (M2.row (i := 2) rfl) _ rfl _ rfl Try.underlying31 rfl (by kernel_rfl)) rfl ⟨rfl, M2.below⟩
set_option maxRecDepth 100000 in
set_option maxHeartbeats 4000000 in
theorem rembed_40 (P A : Nat → Int) (w : World) (h : RightP P 40) : Calls Try.prog 16 #[net P 40, .agg (a4 A)] w fun e w' => e = .returned (.tuple #[.agg #[.int .u8 (P 0), .int .u8 (P 1), .int .u8 (P 2), .int .u8 (P 3), .int .u8 (P 4), .int .u8 (A 0), .int .u8 (A 1), .int .u8 (A 2), .int .u8 (P 8), .int .u8 (A 3), .int .u8 (P 10), .int .u8 (P 11), .int .u8 (P 12), .int .u8 (P 13), .int .u8 (P 14), .int .u8 (P 15)], .bool true]) ∧ Below w.heap.size w w' := by
  have c18 := fun w => rright_t P 40 w h
  clear h
  go_enter Try.func16, Try.ntmps16
  go_upto_region 1 with fail
  refine hide_w (Mem.three w 26 31 23 #[.int .u8 (P 0), .int .u8 (P 1), .int .u8 (P 2), .int .u8 (P 3), .int .u8 (P 4), .int .u8 (P 5), .int .u8 (P 6), .int .u8 (P 7), .int .u8 (P 8), .int .u8 (P 9), .int .u8 (P 10), .int .u8 (P 11), .int .u8 (P 12), .int .u8 (P 13), .int .u8 (P 14), .int .u8 (P 15), .int .i64 40] (a4 A) #[.int .u8 0, .int .u8 0, .int .u8 0, .int .u8 0, .int .u8 0, .int .u8 0, .int .u8 0, .int .u8 0, .int .u8 0, .int .u8 0, .int .u8 0, .int .u8 0, .int .u8 0, .int .u8 0, .int .u8 0, .int .u8 0]) (fun w0 M0 => ?_)
  refine wp_region_lit ?_
  refine lv (by kernel_rfl) (some 7) rfl (v := ?_) ?_ ?_
  rotate_left
  · go_simp; try with_reducible rfl
  try simp only [Act.put, List.setIfInBounds_toArray, List.set_cons_zero, List.set_cons_succ]
  refine ly M0 (some 8) rfl (yi_part 0 23 (.tmp 7) rfl rfl rfl 0 rfl (a16 P) Try.underlying23 rfl (by kernel_rfl) (by kernel_rfl)) ?_
  try simp only [Act.put, List.setIfInBounds_toArray, List.set_cons_zero, List.set_cons_succ]
  refine l_alloc rfl (some 6) rfl #[.int .u8 0, .int .u8 0, .int .u8 0, .int .u8 0, .int .u8 0, .int .u8 0, .int .u8 0, .int .u8 0, .int .u8 0, .int .u8 0, .int .u8 0, .int .u8 0, .int .u8 0, .int .u8 0, .int .u8 0, .int .u8 0] 23 (by kernel_rfl) ?_
  have M1 := M0.new rfl 23 #[.int .u8 0, .int .u8 0, .int .u8 0, .int .u8 0, .int .u8 0, .int .u8 0, .int .u8 0, .int .u8 0, .int .u8 0, .int .u8 0, .int .u8 0, .int .u8 0, .int .u8 0, .int .u8 0, .int .u8 0, .int .u8 0]
  clear M0
  try simp only [List.cons_append, List.nil_append, List.set_cons_zero, List.set_cons_succ] at M1
  try simp only [Act.put, List.setIfInBounds_toArray, List.set_cons_zero, List.set_cons_succ]
  refine l_store M1 3 rfl 23 (.tmp 6) _ rfl rfl rfl rfl _ rfl (by kernel_rfl) (by rfl) (by kernel_rfl) _ rfl (fun s2 M2 => ?_)
  clear M1
  try simp only [List.cons_append, List.nil_append, List.set_cons_zero, List.set_cons_succ] at M2
  try simp only [Act.put, List.setIfInBounds_toArray, List.set_cons_zero, List.set_cons_succ]
  refine wpList_nil ?_
  go_upto_region 2 with fail
  refine wp_region_lit ?_
  refine ly M2 (some 9) rfl (yi_row 0 26 (.tmp 2) rfl rfl rfl rfl Try.underlying26 rfl (by kernel_rfl)) ?_
  try simp only [Act.put, List.setIfInBounds_toArray, List.set_cons_zero, List.set_cons_succ]
  refine l_call rfl (some 10) rfl (c18 _) (by kernel_rfl) (fun s3 hb3 => ?_)
  have M3 := M2.call hb3
  clear hb3 M2
  try simp only [Act.put, List.setIfInBounds_toArray, List.set_cons_zero, List.set_cons_succ]
  refine lv (by kernel_rfl) (some 11) rfl (v := ?_) ?_ ?_
  rotate_left
  · go_simp; try with_reducible rfl
  try simp only [Act.put, List.setIfInBounds_toArray, List.set_cons_zero, List.set_cons_succ]
  refine wpList_nil ?_
  go_upto_region 4 with fail
  refine wp_region_lit ?_
  refine lv (by kernel_rfl) (some 13) rfl (v := ?_) ?_ ?_
  rotate_left
  · go_simp; try with_reducible rfl
  try simp only [Act.put, List.setIfInBounds_toArray, List.set_cons_zero, List.set_cons_succ]
  refine ly M3 (some 14) rfl (yi_cell 0 3 (.tmp 13) rfl rfl rfl _ rfl _ Try.underlying3 rfl) ?_
  try simp only [Act.put, List.setIfInBounds_toArray, List.set_cons_zero, List.set_cons_succ]
  refine wpList_nil ?_
  go_upto_region 5 with fail
  refine wp_region_lit ?_
  refine lv (by kernel_rfl) (some 16) rfl (v := ?_) ?_ ?_
  rotate_left
  · go_simp; try with_reducible rfl
  try simp only [Act.put, List.setIfInBounds_toArray, List.set_cons_zero, List.set_cons_succ]
  refine lv (by kernel_rfl) (some 15) rfl (v := ?_) ?_ ?_
  rotate_left
  · go_simp; try with_reducible rfl
  try simp only [Act.put, List.setIfInBounds_toArray, List.set_cons_zero, List.set_cons_succ]
  refine wpList_nil ?_
  go_upto_region 7 with fail
  refine wp_region_lit ?_
  refine lv (by kernel_rfl) (some 30) rfl (v := ?_) ?_ ?_
  rotate_left
  · go_simp; try with_reducible rfl
  try simp only [Act.put, List.setIfInBounds_toArray, List.set_cons_zero, List.set_cons_succ]
  refine lv (by kernel_rfl) (some 29) rfl (v := ?_) ?_ ?_
  rotate_left
  · go_simp; try with_reducible rfl
  try simp only [Act.put, List.setIfInBounds_toArray, List.set_cons_zero, List.set_cons_succ]
  refine wpList_nil ?_
  go_upto_region 8 with fail
  refine wp_region_held_drew (S := fun w' => Mem w w' [(w.heap.size, 26, #[.int .u8 (P 0), .int .u8 (P 1), .int .u8 (P 2), .int .u8 (P 3), .int .u8 (P 4), .int .u8 (P 5), .int .u8 (P 6), .int .u8 (P 7), .int .u8 (P 8), .int .u8 (P 9), .int .u8 (P 10), .int .u8 (P 11), .int .u8 (P 12), .int .u8 (P 13), .int .u8 (P 14), .int .u8 (P 15), .int .i64 40]), (w.heap.size + 1, 31, a4 A), (w.heap.size + 1 + 1, 23, #[.int .u8 0, .int .u8 0, .int .u8 0, .int .u8 0, .int .u8 0, .int .u8 0, .int .u8 0, .int .u8 0, .int .u8 0, .int .u8 0, .int .u8 0, .int .u8 0, .int .u8 0, .int .u8 0, .int .u8 0, .int .u8 0])]) (by kernel_rfl) (Mem.init (l := [(w.heap.size, 26, #[.int .u8 (P 0), .int .u8 (P 1), .int .u8 (P 2), .int .u8 (P 3), .int .u8 (P 4), .int .u8 (P 5), .int .u8 (P 6), .int .u8 (P 7), .int .u8 (P 8), .int .u8 (P 9), .int .u8 (P 10), .int .u8 (P 11), .int .u8 (P 12), .int .u8 (P 13), .int .u8 (P 14), .int .u8 (P 15), .int .i64 40]), (w.heap.size + 1, 31, a4 A), (w.heap.size + 1 + 1, 23, #[.int .u8 0, .int .u8 0, .int .u8 0, .int .u8 0, .int .u8 0, .int .u8 0, .int .u8 0, .int .u8 0, .int .u8 0, .int .u8 0, .int .u8 0, .int .u8 0, .int .u8 0, .int .u8 0, .int .u8 0, .int .u8 0])]) M3.drew) (fun _ => ?_)
  have M4 := M3.drew
  refine tk (i := 0) (v := ?_) rfl (some 31) rfl (by kernel_rfl) (by kernel_rfl) (by kernel_rfl) (fun _ _ _ h => h) (Or.inl ⟨by kernel_rfl, ?_⟩) (Mem.init (l := [(w.heap.size, 26, #[.int .u8 (P 0), .int .u8 (P 1), .int .u8 (P 2), .int .u8 (P 3), .int .u8 (P 4), .int .u8 (P 5), .int .u8 (P 6), .int .u8 (P 7), .int .u8 (P 8), .int .u8 (P 9), .int .u8 (P 10), .int .u8 (P 11), .int .u8 (P 12), .int .u8 (P 13), .int .u8 (P 14), .int .u8 (P 15), .int .i64 40]), (w.heap.size + 1, 31, a4 A), (w.heap.size + 1 + 1, 23, #[.int .u8 0, .int .u8 0, .int .u8 0, .int .u8 0, .int .u8 0, .int .u8 0, .int .u8 0, .int .u8 0, .int .u8 0, .int .u8 0, .int .u8 0, .int .u8 0, .int .u8 0, .int .u8 0, .int .u8 0, .int .u8 0])]) M4) ?_
  rotate_left
  · intro w hS; go_simp; try with_reducible rfl
  try simp only [Act.put, List.setIfInBounds_toArray, List.set_cons_zero, List.set_cons_succ]
  refine tk (i := 1) rfl (some 32) rfl (by kernel_rfl) (by kernel_rfl) (by kernel_rfl) (fun _ _ _ h => h) (yi_cell 1 5 (.tmp 31) rfl rfl rfl _ rfl _ Try.underlying5 rfl) (Mem.init (l := [(w.heap.size, 26, #[.int .u8 (P 0), .int .u8 (P 1), .int .u8 (P 2), .int .u8 (P 3), .int .u8 (P 4), .int .u8 (P 5), .int .u8 (P 6), .int .u8 (P 7), .int .u8 (P 8), .int .u8 (P 9), .int .u8 (P 10), .int .u8 (P 11), .int .u8 (P 12), .int .u8 (P 13), .int .u8 (P 14), .int .u8 (P 15), .int .i64 40]), (w.heap.size + 1, 31, a4 A), (w.heap.size + 1 + 1, 23, #[.int .u8 0, .int .u8 0, .int .u8 0, .int .u8 0, .int .u8 0, .int .u8 0, .int .u8 0, .int .u8 0, .int .u8 0, .int .u8 0, .int .u8 0, .int .u8 0, .int .u8 0, .int .u8 0, .int .u8 0, .int .u8 0])]) M4) ?_
  try simp only [Act.put, List.setIfInBounds_toArray, List.set_cons_zero, List.set_cons_succ]
  refine tk (i := 2) (v := ?_) rfl (some 33) rfl (by kernel_rfl) (by kernel_rfl) (by kernel_rfl) (fun _ _ _ h => h) (Or.inl ⟨by kernel_rfl, ?_⟩) (Mem.init (l := [(w.heap.size, 26, #[.int .u8 (P 0), .int .u8 (P 1), .int .u8 (P 2), .int .u8 (P 3), .int .u8 (P 4), .int .u8 (P 5), .int .u8 (P 6), .int .u8 (P 7), .int .u8 (P 8), .int .u8 (P 9), .int .u8 (P 10), .int .u8 (P 11), .int .u8 (P 12), .int .u8 (P 13), .int .u8 (P 14), .int .u8 (P 15), .int .i64 40]), (w.heap.size + 1, 31, a4 A), (w.heap.size + 1 + 1, 23, #[.int .u8 0, .int .u8 0, .int .u8 0, .int .u8 0, .int .u8 0, .int .u8 0, .int .u8 0, .int .u8 0, .int .u8 0, .int .u8 0, .int .u8 0, .int .u8 0, .int .u8 0, .int .u8 0, .int .u8 0, .int .u8 0])]) M4) ?_
  rotate_left
  · intro w hS; go_simp; try with_reducible rfl
  try simp only [Act.put, List.setIfInBounds_toArray, List.set_cons_zero, List.set_cons_succ]
  refine tk (i := 3) rfl (some 34) rfl (by kernel_rfl) (by kernel_rfl) (by kernel_rfl) (fun _ _ _ h => h) (yi_cell 1 5 (.tmp 33) rfl rfl rfl _ rfl _ Try.underlying5 rfl) (Mem.init (l := [(w.heap.size, 26, #[.int .u8 (P 0), .int .u8 (P 1), .int .u8 (P 2), .int .u8 (P 3), .int .u8 (P 4), .int .u8 (P 5), .int .u8 (P 6), .int .u8 (P 7), .int .u8 (P 8), .int .u8 (P 9), .int .u8 (P 10), .int .u8 (P 11), .int .u8 (P 12), .int .u8 (P 13), .int .u8 (P 14), .int .u8 (P 15), .int .i64 40]), (w.heap.size + 1, 31, a4 A), (w.heap.size + 1 + 1, 23, #[.int .u8 0, .int .u8 0, .int .u8 0, .int .u8 0, .int .u8 0, .int .u8 0, .int .u8 0, .int .u8 0, .int .u8 0, .int .u8 0, .int .u8 0, .int .u8 0, .int .u8 0, .int .u8 0, .int .u8 0, .int .u8 0])]) M4) ?_
  try simp only [Act.put, List.setIfInBounds_toArray, List.set_cons_zero, List.set_cons_succ]
  refine tk (i := 4) (v := ?_) rfl (some 35) rfl (by kernel_rfl) (by kernel_rfl) (by kernel_rfl) (fun _ _ _ h => h) (Or.inl ⟨by kernel_rfl, ?_⟩) (Mem.init (l := [(w.heap.size, 26, #[.int .u8 (P 0), .int .u8 (P 1), .int .u8 (P 2), .int .u8 (P 3), .int .u8 (P 4), .int .u8 (P 5), .int .u8 (P 6), .int .u8 (P 7), .int .u8 (P 8), .int .u8 (P 9), .int .u8 (P 10), .int .u8 (P 11), .int .u8 (P 12), .int .u8 (P 13), .int .u8 (P 14), .int .u8 (P 15), .int .i64 40]), (w.heap.size + 1, 31, a4 A), (w.heap.size + 1 + 1, 23, #[.int .u8 0, .int .u8 0, .int .u8 0, .int .u8 0, .int .u8 0, .int .u8 0, .int .u8 0, .int .u8 0, .int .u8 0, .int .u8 0, .int .u8 0, .int .u8 0, .int .u8 0, .int .u8 0, .int .u8 0, .int .u8 0])]) M4) ?_
  rotate_left
  · intro w hS; go_simp; try with_reducible rfl
  try simp only [Act.put, List.setIfInBounds_toArray, List.set_cons_zero, List.set_cons_succ]
  refine tk (i := 5) rfl (some 36) rfl (by kernel_rfl) (by kernel_rfl) (by kernel_rfl) (fun _ _ _ h => h) (yi_cell 1 5 (.tmp 35) rfl rfl rfl _ rfl _ Try.underlying5 rfl) (Mem.init (l := [(w.heap.size, 26, #[.int .u8 (P 0), .int .u8 (P 1), .int .u8 (P 2), .int .u8 (P 3), .int .u8 (P 4), .int .u8 (P 5), .int .u8 (P 6), .int .u8 (P 7), .int .u8 (P 8), .int .u8 (P 9), .int .u8 (P 10), .int .u8 (P 11), .int .u8 (P 12), .int .u8 (P 13), .int .u8 (P 14), .int .u8 (P 15), .int .i64 40]), (w.heap.size + 1, 31, a4 A), (w.heap.size + 1 + 1, 23, #[.int .u8 0, .int .u8 0, .int .u8 0, .int .u8 0, .int .u8 0, .int .u8 0, .int .u8 0, .int .u8 0, .int .u8 0, .int .u8 0, .int .u8 0, .int .u8 0, .int .u8 0, .int .u8 0, .int .u8 0, .int .u8 0])]) M4) ?_
  try simp only [Act.put, List.setIfInBounds_toArray, List.set_cons_zero, List.set_cons_succ]
  refine tk (i := 6) (v := ?_) rfl (some 37) rfl (by kernel_rfl) (by kernel_rfl) (by kernel_rfl) (fun _ _ _ h => h) (Or.inl ⟨by kernel_rfl, ?_⟩) (Mem.init (l := [(w.heap.size, 26, #[.int .u8 (P 0), .int .u8 (P 1), .int .u8 (P 2), .int .u8 (P 3), .int .u8 (P 4), .int .u8 (P 5), .int .u8 (P 6), .int .u8 (P 7), .int .u8 (P 8), .int .u8 (P 9), .int .u8 (P 10), .int .u8 (P 11), .int .u8 (P 12), .int .u8 (P 13), .int .u8 (P 14), .int .u8 (P 15), .int .i64 40]), (w.heap.size + 1, 31, a4 A), (w.heap.size + 1 + 1, 23, #[.int .u8 0, .int .u8 0, .int .u8 0, .int .u8 0, .int .u8 0, .int .u8 0, .int .u8 0, .int .u8 0, .int .u8 0, .int .u8 0, .int .u8 0, .int .u8 0, .int .u8 0, .int .u8 0, .int .u8 0, .int .u8 0])]) M4) ?_
  rotate_left
  · intro w hS; go_simp; try with_reducible rfl
  try simp only [Act.put, List.setIfInBounds_toArray, List.set_cons_zero, List.set_cons_succ]
  refine tk (i := 7) rfl (some 38) rfl (by kernel_rfl) (by kernel_rfl) (by kernel_rfl) (fun _ _ _ h => h) (yi_cell 1 5 (.tmp 37) rfl rfl rfl _ rfl _ Try.underlying5 rfl) (Mem.init (l := [(w.heap.size, 26, #[.int .u8 (P 0), .int .u8 (P 1), .int .u8 (P 2), .int .u8 (P 3), .int .u8 (P 4), .int .u8 (P 5), .int .u8 (P 6), .int .u8 (P 7), .int .u8 (P 8), .int .u8 (P 9), .int .u8 (P 10), .int .u8 (P 11), .int .u8 (P 12), .int .u8 (P 13), .int .u8 (P 14), .int .u8 (P 15), .int .i64 40]), (w.heap.size + 1, 31, a4 A), (w.heap.size + 1 + 1, 23, #[.int .u8 0, .int .u8 0, .int .u8 0, .int .u8 0, .int .u8 0, .int .u8 0, .int .u8 0, .int .u8 0, .int .u8 0, .int .u8 0, .int .u8 0, .int .u8 0, .int .u8 0, .int .u8 0, .int .u8 0, .int .u8 0])]) M4) ?_
  try simp only [Act.put, List.setIfInBounds_toArray, List.set_cons_zero, List.set_cons_succ]
  refine tk (i := 8) (v := ?_) rfl (some 39) rfl (by kernel_rfl) (by kernel_rfl) (by kernel_rfl) (fun _ _ _ h => h) (Or.inl ⟨by kernel_rfl, ?_⟩) (Mem.init (l := [(w.heap.size, 26, #[.int .u8 (P 0), .int .u8 (P 1), .int .u8 (P 2), .int .u8 (P 3), .int .u8 (P 4), .int .u8 (P 5), .int .u8 (P 6), .int .u8 (P 7), .int .u8 (P 8), .int .u8 (P 9), .int .u8 (P 10), .int .u8 (P 11), .int .u8 (P 12), .int .u8 (P 13), .int .u8 (P 14), .int .u8 (P 15), .int .i64 40]), (w.heap.size + 1, 31, a4 A), (w.heap.size + 1 + 1, 23, #[.int .u8 0, .int .u8 0, .int .u8 0, .int .u8 0, .int .u8 0, .int .u8 0, .int .u8 0, .int .u8 0, .int .u8 0, .int .u8 0, .int .u8 0, .int .u8 0, .int .u8 0, .int .u8 0, .int .u8 0, .int .u8 0])]) M4) ?_
  rotate_left
  · intro w hS; go_simp; try with_reducible rfl
  try simp only [Act.put, List.setIfInBounds_toArray, List.set_cons_zero, List.set_cons_succ]
  refine wpAnyH_ready (rs := [9]) (by kernel_rfl) (by simp) ?_
  refine br_cell M4 3 rfl (by kernel_rfl) 5 (.tmp 39) _ rfl rfl rfl _ rfl _ rfl (by kernel_rfl) (by kernel_rfl) rfl rfl #[.int .u8 (P 0), .int .u8 (P 1), .int .u8 (P 2), .int .u8 (P 3), .int .u8 (P 4), .int .u8 (A 0), .int .u8 (P 6), .int .u8 (P 7), .int .u8 (P 8), .int .u8 (P 9), .int .u8 (P 10), .int .u8 (P 11), .int .u8 (P 12), .int .u8 (P 13), .int .u8 (P 14), .int .u8 (P 15)] (by kernel_rfl) _ rfl (fun w' M' => Mem.init (l := [(w.heap.size, 26, #[.int .u8 (P 0), .int .u8 (P 1), .int .u8 (P 2), .int .u8 (P 3), .int .u8 (P 4), .int .u8 (P 5), .int .u8 (P 6), .int .u8 (P 7), .int .u8 (P 8), .int .u8 (P 9), .int .u8 (P 10), .int .u8 (P 11), .int .u8 (P 12), .int .u8 (P 13), .int .u8 (P 14), .int .u8 (P 15), .int .i64 40]), (w.heap.size + 1, 31, a4 A), (w.heap.size + 1 + 1, 23, #[.int .u8 0, .int .u8 0, .int .u8 0, .int .u8 0, .int .u8 0, .int .u8 0, .int .u8 0, .int .u8 0, .int .u8 0, .int .u8 0, .int .u8 0, .int .u8 0, .int .u8 0, .int .u8 0, .int .u8 0, .int .u8 0])]) M') (fun s5 M5 => ?_) AllReadyH.nil
  clear M4
  try simp only [List.cons_append, List.nil_append, List.set_cons_zero, List.set_cons_succ] at M5
  try simp only [Act.put, List.setIfInBounds_toArray, List.set_cons_zero, List.set_cons_succ]
  refine tk (i := 10) (v := ?_) rfl (some 40) rfl (by kernel_rfl) (by kernel_rfl) (by kernel_rfl) (fun _ _ _ h => h) (Or.inl ⟨by kernel_rfl, ?_⟩) (Mem.init (l := [(w.heap.size, 26, #[.int .u8 (P 0), .int .u8 (P 1), .int .u8 (P 2), .int .u8 (P 3), .int .u8 (P 4), .int .u8 (P 5), .int .u8 (P 6), .int .u8 (P 7), .int .u8 (P 8), .int .u8 (P 9), .int .u8 (P 10), .int .u8 (P 11), .int .u8 (P 12), .int .u8 (P 13), .int .u8 (P 14), .int .u8 (P 15), .int .i64 40]), (w.heap.size + 1, 31, a4 A), (w.heap.size + 1 + 1, 23, #[.int .u8 0, .int .u8 0, .int .u8 0, .int .u8 0, .int .u8 0, .int .u8 0, .int .u8 0, .int .u8 0, .int .u8 0, .int .u8 0, .int .u8 0, .int .u8 0, .int .u8 0, .int .u8 0, .int .u8 0, .int .u8 0])]) M5) ?_
  rotate_left
  · intro w hS; go_simp; try with_reducible rfl
  try simp only [Act.put, List.setIfInBounds_toArray, List.set_cons_zero, List.set_cons_succ]
  refine wpAnyH_ready (rs := [11]) (by kernel_rfl) (by simp) ?_
  refine br_cell M5 3 rfl (by kernel_rfl) 5 (.tmp 40) _ rfl rfl rfl _ rfl _ rfl (by kernel_rfl) (by kernel_rfl) rfl rfl #[.int .u8 (P 0), .int .u8 (P 1), .int .u8 (P 2), .int .u8 (P 3), .int .u8 (P 4), .int .u8 (A 0), .int .u8 (A 1), .int .u8 (P 7), .int .u8 (P 8), .int .u8 (P 9), .int .u8 (P 10), .int .u8 (P 11), .int .u8 (P 12), .int .u8 (P 13), .int .u8 (P 14), .int .u8 (P 15)] (by kernel_rfl) _ rfl (fun w' M' => Mem.init (l := [(w.heap.size, 26, #[.int .u8 (P 0), .int .u8 (P 1), .int .u8 (P 2), .int .u8 (P 3), .int .u8 (P 4), .int .u8 (P 5), .int .u8 (P 6), .int .u8 (P 7), .int .u8 (P 8), .int .u8 (P 9), .int .u8 (P 10), .int .u8 (P 11), .int .u8 (P 12), .int .u8 (P 13), .int .u8 (P 14), .int .u8 (P 15), .int .i64 40]), (w.heap.size + 1, 31, a4 A), (w.heap.size + 1 + 1, 23, #[.int .u8 0, .int .u8 0, .int .u8 0, .int .u8 0, .int .u8 0, .int .u8 0, .int .u8 0, .int .u8 0, .int .u8 0, .int .u8 0, .int .u8 0, .int .u8 0, .int .u8 0, .int .u8 0, .int .u8 0, .int .u8 0])]) M') (fun s6 M6 => ?_) AllReadyH.nil
  clear M5
  try simp only [List.cons_append, List.nil_append, List.set_cons_zero, List.set_cons_succ] at M6
  try simp only [Act.put, List.setIfInBounds_toArray, List.set_cons_zero, List.set_cons_succ]
  refine tk (i := 12) (v := ?_) rfl (some 41) rfl (by kernel_rfl) (by kernel_rfl) (by kernel_rfl) (fun _ _ _ h => h) (Or.inl ⟨by kernel_rfl, ?_⟩) (Mem.init (l := [(w.heap.size, 26, #[.int .u8 (P 0), .int .u8 (P 1), .int .u8 (P 2), .int .u8 (P 3), .int .u8 (P 4), .int .u8 (P 5), .int .u8 (P 6), .int .u8 (P 7), .int .u8 (P 8), .int .u8 (P 9), .int .u8 (P 10), .int .u8 (P 11), .int .u8 (P 12), .int .u8 (P 13), .int .u8 (P 14), .int .u8 (P 15), .int .i64 40]), (w.heap.size + 1, 31, a4 A), (w.heap.size + 1 + 1, 23, #[.int .u8 0, .int .u8 0, .int .u8 0, .int .u8 0, .int .u8 0, .int .u8 0, .int .u8 0, .int .u8 0, .int .u8 0, .int .u8 0, .int .u8 0, .int .u8 0, .int .u8 0, .int .u8 0, .int .u8 0, .int .u8 0])]) M6) ?_
  rotate_left
  · intro w hS; go_simp; try with_reducible rfl
  try simp only [Act.put, List.setIfInBounds_toArray, List.set_cons_zero, List.set_cons_succ]
  refine wpAnyH_ready (rs := [13]) (by kernel_rfl) (by simp) ?_
  refine br_cell M6 3 rfl (by kernel_rfl) 5 (.tmp 41) _ rfl rfl rfl _ rfl _ rfl (by kernel_rfl) (by kernel_rfl) rfl rfl #[.int .u8 (P 0), .int .u8 (P 1), .int .u8 (P 2), .int .u8 (P 3), .int .u8 (P 4), .int .u8 (A 0), .int .u8 (A 1), .int .u8 (A 2), .int .u8 (P 8), .int .u8 (P 9), .int .u8 (P 10), .int .u8 (P 11), .int .u8 (P 12), .int .u8 (P 13), .int .u8 (P 14), .int .u8 (P 15)] (by kernel_rfl) _ rfl (fun w' M' => Mem.init (l := [(w.heap.size, 26, #[.int .u8 (P 0), .int .u8 (P 1), .int .u8 (P 2), .int .u8 (P 3), .int .u8 (P 4), .int .u8 (P 5), .int .u8 (P 6), .int .u8 (P 7), .int .u8 (P 8), .int .u8 (P 9), .int .u8 (P 10), .int .u8 (P 11), .int .u8 (P 12), .int .u8 (P 13), .int .u8 (P 14), .int .u8 (P 15), .int .i64 40]), (w.heap.size + 1, 31, a4 A), (w.heap.size + 1 + 1, 23, #[.int .u8 0, .int .u8 0, .int .u8 0, .int .u8 0, .int .u8 0, .int .u8 0, .int .u8 0, .int .u8 0, .int .u8 0, .int .u8 0, .int .u8 0, .int .u8 0, .int .u8 0, .int .u8 0, .int .u8 0, .int .u8 0])]) M') (fun s7 M7 => ?_) AllReadyH.nil
  clear M6
  try simp only [List.cons_append, List.nil_append, List.set_cons_zero, List.set_cons_succ] at M7
  try simp only [Act.put, List.setIfInBounds_toArray, List.set_cons_zero, List.set_cons_succ]
  refine tk (i := 14) (v := ?_) rfl (some 42) rfl (by kernel_rfl) (by kernel_rfl) (by kernel_rfl) (fun _ _ _ h => h) (Or.inl ⟨by kernel_rfl, ?_⟩) (Mem.init (l := [(w.heap.size, 26, #[.int .u8 (P 0), .int .u8 (P 1), .int .u8 (P 2), .int .u8 (P 3), .int .u8 (P 4), .int .u8 (P 5), .int .u8 (P 6), .int .u8 (P 7), .int .u8 (P 8), .int .u8 (P 9), .int .u8 (P 10), .int .u8 (P 11), .int .u8 (P 12), .int .u8 (P 13), .int .u8 (P 14), .int .u8 (P 15), .int .i64 40]), (w.heap.size + 1, 31, a4 A), (w.heap.size + 1 + 1, 23, #[.int .u8 0, .int .u8 0, .int .u8 0, .int .u8 0, .int .u8 0, .int .u8 0, .int .u8 0, .int .u8 0, .int .u8 0, .int .u8 0, .int .u8 0, .int .u8 0, .int .u8 0, .int .u8 0, .int .u8 0, .int .u8 0])]) M7) ?_
  rotate_left
  · intro w hS; go_simp; try with_reducible rfl
  try simp only [Act.put, List.setIfInBounds_toArray, List.set_cons_zero, List.set_cons_succ]
  refine wpAnyH_ready (rs := [15]) (by kernel_rfl) (by simp) ?_
  refine br_cell M7 3 rfl (by kernel_rfl) 5 (.tmp 42) _ rfl rfl rfl _ rfl _ rfl (by kernel_rfl) (by kernel_rfl) rfl rfl #[.int .u8 (P 0), .int .u8 (P 1), .int .u8 (P 2), .int .u8 (P 3), .int .u8 (P 4), .int .u8 (A 0), .int .u8 (A 1), .int .u8 (A 2), .int .u8 (P 8), .int .u8 (A 3), .int .u8 (P 10), .int .u8 (P 11), .int .u8 (P 12), .int .u8 (P 13), .int .u8 (P 14), .int .u8 (P 15)] (by kernel_rfl) _ rfl (fun w' M' => Mem.init (l := [(w.heap.size, 26, #[.int .u8 (P 0), .int .u8 (P 1), .int .u8 (P 2), .int .u8 (P 3), .int .u8 (P 4), .int .u8 (P 5), .int .u8 (P 6), .int .u8 (P 7), .int .u8 (P 8), .int .u8 (P 9), .int .u8 (P 10), .int .u8 (P 11), .int .u8 (P 12), .int .u8 (P 13), .int .u8 (P 14), .int .u8 (P 15), .int .i64 40]), (w.heap.size + 1, 31, a4 A), (w.heap.size + 1 + 1, 23, #[.int .u8 0, .int .u8 0, .int .u8 0, .int .u8 0, .int .u8 0, .int .u8 0, .int .u8 0, .int .u8 0, .int .u8 0, .int .u8 0, .int .u8 0, .int .u8 0, .int .u8 0, .int .u8 0, .int .u8 0, .int .u8 0])]) M') (fun s8 M8 => ?_) AllReadyH.nil
  clear M7
  try simp only [List.cons_append, List.nil_append, List.set_cons_zero, List.set_cons_succ] at M8
  try simp only [Act.put, List.setIfInBounds_toArray, List.set_cons_zero, List.set_cons_succ]
  refine wpAnyH_done (by kernel_rfl) ?_ _
  go_upto_region 17 with fail
  refine wp_region_lit ?_
  refine ly M8 (some 99) rfl (yi_row 3 23 (.tmp 6) rfl rfl rfl rfl Try.underlying23 rfl (by kernel_rfl)) ?_
  try simp only [Act.put, List.setIfInBounds_toArray, List.set_cons_zero, List.set_cons_succ]
  refine l_store M8 2 rfl 23 (.tmp 4) _ rfl rfl rfl rfl _ rfl (by kernel_rfl) (by rfl) (by kernel_rfl) _ rfl (fun s9 M9 => ?_)
  clear M8
  try simp only [List.cons_append, List.nil_append, List.set_cons_zero, List.set_cons_succ] at M9
  try simp only [Act.put, List.setIfInBounds_toArray, List.set_cons_zero, List.set_cons_succ]
  refine lv (by kernel_rfl) (some 5) rfl (v := ?_) ?_ ?_
  rotate_left
  · go_simp; try with_reducible rfl
  try simp only [Act.put, List.setIfInBounds_toArray, List.set_cons_zero, List.set_cons_succ]
  refine wpList_nil ?_
  go_wp2_with fail
  exact bodyPost_ret (v := .tuple #[.agg #[.int .u8 (P 0), .int .u8 (P 1), .int .u8 (P 2), .int .u8 (P 3), .int .u8 (P 4), .int .u8 (A 0), .int .u8 (A 1), .int .u8 (A 2), .int .u8 (P 8), .int .u8 (A 3), .int .u8 (P 10), .int .u8 (P 11), .int .u8 (P 12), .int .u8 (P 13), .int .u8 (P 14), .int .u8 (P 15)], .bool true]) (results_cell_tmp rfl (M9.row (i := 2) rfl) _ rfl _ rfl Try.underlying23 rfl (by kernel_rfl)) rfl ⟨rfl, M9.below⟩
set_option maxRecDepth 100000 in
set_option maxHeartbeats 4000000 in
theorem rextract_40 (P X : Nat → Int) (w : World) (h : InsideP P X 40) (h8 : X 8 = 0) : Calls Try.prog 17 #[net P 40, .agg (a16 X)] w fun e w' => e = .returned (.tuple #[.agg #[.int .u8 (X 5), .int .u8 (X 6), .int .u8 (X 7), .int .u8 (X 9)], .bool true]) ∧ Below w.heap.size w w' := by
  have c20 := fun w => rinside_any P X 40 w true (by simp [h])
  have t8 : (X 8 != 0) = false := by simp [h8]
  clear h h8
  go_enter Try.func17, Try.ntmps17
  go_upto_region 1 with fail
  refine hide_w (Mem.three w 26 23 31 #[.int .u8 (P 0), .int .u8 (P 1), .int .u8 (P 2), .int .u8 (P 3), .int .u8 (P 4), .int .u8 (P 5), .int .u8 (P 6), .int .u8 (P 7), .int .u8 (P 8), .int .u8 (P 9), .int .u8 (P 10), .int .u8 (P 11), .int .u8 (P 12), .int .u8 (P 13), .int .u8 (P 14), .int .u8 (P 15), .int .i64 40] (a16 X) #[.int .u8 0, .int .u8 0, .int .u8 0, .int .u8 0]) (fun w0 M0 => ?_)
  refine wp_region_lit ?_
  refine ly M0 (some 6) rfl (yi_row 0 26 (.tmp 2) rfl rfl rfl rfl Try.underlying26 rfl (by kernel_rfl)) ?_
  try simp only [Act.put, List.setIfInBounds_toArray, List.set_cons_zero, List.set_cons_succ]
  refine ly M0 (some 7) rfl (yi_row 1 23 (.tmp 3) rfl rfl rfl rfl Try.underlying23 rfl (by kernel_rfl)) ?_
  try simp only [Act.put, List.setIfInBounds_toArray, List.set_cons_zero, List.set_cons_succ]
  refine l_call rfl (some 8) rfl (c20 _) (by kernel_rfl) (fun s1 hb1 => ?_)
  have M1 := M0.call hb1
  clear hb1 M0
  try simp only [Act.put, List.setIfInBounds_toArray, List.set_cons_zero, List.set_cons_succ]
  refine lv (by kernel_rfl) (some 9) rfl (v := ?_) ?_ ?_
  rotate_left
  · go_simp; try with_reducible rfl
  try simp only [Act.put, List.setIfInBounds_toArray, List.set_cons_zero, List.set_cons_succ]
  refine lv (by kernel_rfl) (some 10) rfl (v := ?_) ?_ ?_
  rotate_left
  · go_simp; try with_reducible rfl
  try simp only [Act.put, List.setIfInBounds_toArray, List.set_cons_zero, List.set_cons_succ]
  refine lv (by kernel_rfl) (some 11) rfl (v := ?_) ?_ ?_
  rotate_left
  · go_simp; try with_reducible rfl
  try simp only [Act.put, List.setIfInBounds_toArray, List.set_cons_zero, List.set_cons_succ]
  refine ly M1 (some 12) rfl (yi_cell 1 5 (.tmp 11) rfl rfl rfl _ rfl _ Try.underlying5 rfl) ?_
  try simp only [Act.put, List.setIfInBounds_toArray, List.set_cons_zero, List.set_cons_succ]
  refine lv (by kernel_rfl) (some 13) rfl (v := ?_) ?_ ?_
  rotate_left
  · go_simp; try with_reducible rfl
  try simp only [Act.put, List.setIfInBounds_toArray, List.set_cons_zero, List.set_cons_succ]
  refine lv (by kernel_rfl) (some 14) rfl (v := ?_) ?_ ?_
  rotate_left
  · go_simp; try with_reducible rfl
  try simp only [Act.put, List.setIfInBounds_toArray, List.set_cons_zero, List.set_cons_succ]
  refine wpList_nil ?_
  go_upto_region 3 with fail
  refine wp_region_lit ?_
  refine lv (by kernel_rfl) (some 16) rfl (v := ?_) ?_ ?_
  rotate_left
  · go_simp; try with_reducible rfl
  try simp only [Act.put, List.setIfInBounds_toArray, List.set_cons_zero, List.set_cons_succ]
  refine ly M1 (some 17) rfl (yi_cell 0 3 (.tmp 16) rfl rfl rfl _ rfl _ Try.underlying3 rfl) ?_
  try simp only [Act.put, List.setIfInBounds_toArray, List.set_cons_zero, List.set_cons_succ]
  refine wpList_nil ?_
  go_upto_region 4 with fail
  refine wp_region_lit ?_
  refine lv (by kernel_rfl) (some 19) rfl (v := ?_) ?_ ?_
  rotate_left
  · go_simp; try with_reducible rfl
  try simp only [Act.put, List.setIfInBounds_toArray, List.set_cons_zero, List.set_cons_succ]
  refine lv (by kernel_rfl) (some 18) rfl (v := ?_) ?_ ?_
  rotate_left
  · go_simp; try with_reducible rfl
  try simp only [Act.put, List.setIfInBounds_toArray, List.set_cons_zero, List.set_cons_succ]
  refine wpList_nil ?_
  go_upto_region 6 with fail
  refine wp_region_lit ?_
  refine lv (by kernel_rfl) (some 30) rfl (v := ?_) ?_ ?_
  rotate_left
  · go_simp; try with_reducible rfl
  try simp only [Act.put, List.setIfInBounds_toArray, List.set_cons_zero, List.set_cons_succ]
  refine lv (by kernel_rfl) (some 29) rfl (v := ?_) ?_ ?_
  rotate_left
  · go_simp; try with_reducible rfl
  try simp only [Act.put, List.setIfInBounds_toArray, List.set_cons_zero, List.set_cons_succ]
  refine wpList_nil ?_
  go_upto_region 7 with fail
  refine wp_region_lit ?_
  refine lv (by kernel_rfl) (some 31) rfl (v := ?_) ?_ ?_
  rotate_left
  · go_simp; try with_reducible rfl
  try simp only [Act.put, List.setIfInBounds_toArray, List.set_cons_zero, List.set_cons_succ]
  refine ly M1 (some 32) rfl (yi_cell 1 5 (.tmp 31) rfl rfl rfl _ rfl _ Try.underlying5 rfl) ?_
  try simp only [Act.put, List.setIfInBounds_toArray, List.set_cons_zero, List.set_cons_succ]
  refine lv (by kernel_rfl) (some 33) rfl (v := ?_) ?_ ?_
  rotate_left
  · go_simp; try with_reducible rfl
  try simp only [Act.put, List.setIfInBounds_toArray, List.set_cons_zero, List.set_cons_succ]
  refine ly M1 (some 34) rfl (yi_cell 1 5 (.tmp 33) rfl rfl rfl _ rfl _ Try.underlying5 rfl) ?_
  try simp only [Act.put, List.setIfInBounds_toArray, List.set_cons_zero, List.set_cons_succ]
  refine lv (by kernel_rfl) (some 35) rfl (v := ?_) ?_ ?_
  rotate_left
  · go_simp; try with_reducible rfl
  try simp only [Act.put, List.setIfInBounds_toArray, List.set_cons_zero, List.set_cons_succ]
  refine ly M1 (some 36) rfl (yi_cell 1 5 (.tmp 35) rfl rfl rfl _ rfl _ Try.underlying5 rfl) ?_
  try simp only [Act.put, List.setIfInBounds_toArray, List.set_cons_zero, List.set_cons_succ]
  refine lv (by kernel_rfl) (some 37) rfl (v := ?_) ?_ ?_
  rotate_left
  · go_simp; try with_reducible rfl
  try simp only [Act.put, List.setIfInBounds_toArray, List.set_cons_zero, List.set_cons_succ]
  refine ly M1 (some 38) rfl (yi_cell 1 5 (.tmp 37) rfl rfl rfl _ rfl _ Try.underlying5 rfl) ?_
  try simp only [Act.put, List.setIfInBounds_toArray, List.set_cons_zero, List.set_cons_succ]
  refine lv (by kernel_rfl) (some 39) rfl (v := ?_) ?_ ?_
  rotate_left
  · go_simp; try with_reducible rfl
  try simp only [Act.put, List.setIfInBounds_toArray, List.set_cons_zero, List.set_cons_succ]
  refine l_store M1 2 rfl 31 (.tmp 4) _ rfl rfl rfl rfl _ rfl (by kernel_rfl) (by rfl) (by kernel_rfl) _ rfl (fun s2 M2 => ?_)
  clear M1
  try simp only [List.cons_append, List.nil_append, List.set_cons_zero, List.set_cons_succ] at M2
  try simp only [Act.put, List.setIfInBounds_toArray, List.set_cons_zero, List.set_cons_succ]
  refine lv (by kernel_rfl) (some 5) rfl (v := ?_) ?_ ?_
  rotate_left
  · go_simp; try with_reducible rfl
  try simp only [Act.put, List.setIfInBounds_toArray, List.set_cons_zero, List.set_cons_succ]
  refine wpList_nil ?_
  go_wp2_with fail
  exact bodyPost_ret (v := .tuple #[.agg #[.int .u8 (X 5), .int .u8 (X 6), .int .u8 (X 7), .int .u8 (X 9)], .bool true]) (results_cell_tmp rfl (M2.row (i := 2) rfl) _ rfl _ rfl Try.underlying31 rfl (by kernel_rfl)) rfl ⟨rfl, M2.below⟩
set_option maxRecDepth 100000 in
set_option maxHeartbeats 4000000 in
theorem rembed_48 (P A : Nat → Int) (w : World) (h : RightP P 48) : Calls Try.prog 16 #[net P 48, .agg (a4 A)] w fun e w' => e = .returned (.tuple #[.agg #[.int .u8 (P 0), .int .u8 (P 1), .int .u8 (P 2), .int .u8 (P 3), .int .u8 (P 4), .int .u8 (P 5), .int .u8 (A 0), .int .u8 (A 1), .int .u8 (P 8), .int .u8 (A 2), .int .u8 (A 3), .int .u8 (P 11), .int .u8 (P 12), .int .u8 (P 13), .int .u8 (P 14), .int .u8 (P 15)], .bool true]) ∧ Below w.heap.size w w' := by
  have c18 := fun w => rright_t P 48 w h
  clear h
  go_enter Try.func16, Try.ntmps16
  go_upto_region 1 with fail
  refine hide_w (Mem.three w 26 31 23 #[.int .u8 (P 0), .int .u8 (P 1), .int .u8 (P 2), .int .u8 (P 3), .int .u8 (P 4), .int .u8 (P 5), .int .u8 (P 6), .int .u8 (P 7), .int .u8 (P 8), .int .u8 (P 9), .int .u8 (P 10), .int .u8 (P 11), .int .u8 (P 12), .int .u8 (P 13), .int .u8 (P 14), .int .u8 (P 15), .int .i64 48] (a4 A) #[.int .u8 0, .int .u8 0, .int .u8 0, .int .u8 0, .int .u8 0, .int .u8 0, .int .u8 0, .int .u8 0, .int .u8 0, .int .u8 0, .int .u8 0, .int .u8 0, .int .u8 0, .int .u8 0, .int .u8 0, .int .u8 0]) (fun w0 M0 => ?_)
  refine wp_region_lit ?_
  refine lv (by kernel_rfl) (some 7) rfl (v := ?_) ?_ ?_
  rotate_left
  · go_simp; try with_reducible rfl
  try simp only [Act.put, List.setIfInBounds_toArray, List.set_cons_zero, List.set_cons_succ]
  refine ly M0 (some 8) rfl (yi_part 0 23 (.tmp 7) rfl rfl rfl 0 rfl (a16 P) Try.underlying23 rfl (by kernel_rfl) (by kernel_rfl)) ?_
  try simp only [Act.put, List.setIfInBounds_toArray, List.set_cons_zero, List.set_cons_succ]
  refine l_alloc rfl (some 6) rfl #[.int .u8 0, .int .u8 0, .int .u8 0, .int .u8 0, .int .u8 0, .int .u8 0, .int .u8 0, .int .u8 0, .int .u8 0, .int .u8 0, .int .u8 0, .int .u8 0, .int .u8 0, .int .u8 0, .int .u8 0, .int .u8 0] 23 (by kernel_rfl) ?_
  have M1 := M0.new rfl 23 #[.int .u8 0, .int .u8 0, .int .u8 0, .int .u8 0, .int .u8 0, .int .u8 0, .int .u8 0, .int .u8 0, .int .u8 0, .int .u8 0, .int .u8 0, .int .u8 0, .int .u8 0, .int .u8 0, .int .u8 0, .int .u8 0]
  clear M0
  try simp only [List.cons_append, List.nil_append, List.set_cons_zero, List.set_cons_succ] at M1
  try simp only [Act.put, List.setIfInBounds_toArray, List.set_cons_zero, List.set_cons_succ]
  refine l_store M1 3 rfl 23 (.tmp 6) _ rfl rfl rfl rfl _ rfl (by kernel_rfl) (by rfl) (by kernel_rfl) _ rfl (fun s2 M2 => ?_)
  clear M1
  try simp only [List.cons_append, List.nil_append, List.set_cons_zero, List.set_cons_succ] at M2
  try simp only [Act.put, List.setIfInBounds_toArray, List.set_cons_zero, List.set_cons_succ]
  refine wpList_nil ?_
  go_upto_region 2 with fail
  refine wp_region_lit ?_
  refine ly M2 (some 9) rfl (yi_row 0 26 (.tmp 2) rfl rfl rfl rfl Try.underlying26 rfl (by kernel_rfl)) ?_
  try simp only [Act.put, List.setIfInBounds_toArray, List.set_cons_zero, List.set_cons_succ]
  refine l_call rfl (some 10) rfl (c18 _) (by kernel_rfl) (fun s3 hb3 => ?_)
  have M3 := M2.call hb3
  clear hb3 M2
  try simp only [Act.put, List.setIfInBounds_toArray, List.set_cons_zero, List.set_cons_succ]
  refine lv (by kernel_rfl) (some 11) rfl (v := ?_) ?_ ?_
  rotate_left
  · go_simp; try with_reducible rfl
  try simp only [Act.put, List.setIfInBounds_toArray, List.set_cons_zero, List.set_cons_succ]
  refine wpList_nil ?_
  go_upto_region 4 with fail
  refine wp_region_lit ?_
  refine lv (by kernel_rfl) (some 13) rfl (v := ?_) ?_ ?_
  rotate_left
  · go_simp; try with_reducible rfl
  try simp only [Act.put, List.setIfInBounds_toArray, List.set_cons_zero, List.set_cons_succ]
  refine ly M3 (some 14) rfl (yi_cell 0 3 (.tmp 13) rfl rfl rfl _ rfl _ Try.underlying3 rfl) ?_
  try simp only [Act.put, List.setIfInBounds_toArray, List.set_cons_zero, List.set_cons_succ]
  refine wpList_nil ?_
  go_upto_region 5 with fail
  refine wp_region_lit ?_
  refine lv (by kernel_rfl) (some 16) rfl (v := ?_) ?_ ?_
  rotate_left
  · go_simp; try with_reducible rfl
  try simp only [Act.put, List.setIfInBounds_toArray, List.set_cons_zero, List.set_cons_succ]
  refine lv (by kernel_rfl) (some 15) rfl (v := ?_) ?_ ?_
  rotate_left
  · go_simp; try with_reducible rfl
  try simp only [Act.put, List.setIfInBounds_toArray, List.set_cons_zero, List.set_cons_succ]
  refine wpList_nil ?_
  go_upto_region 7 with fail
  refine wp_region_lit ?_
  refine lv (by kernel_rfl) (some 30) rfl (v := ?_) ?_ ?_
  rotate_left
  · go_simp; try with_reducible rfl
  try simp only [Act.put, List.setIfInBounds_toArray, List.set_cons_zero, List.set_cons_succ]
  refine lv (by kernel_rfl) (some 29) rfl (v := ?_) ?_ ?_
  rotate_left
  · go_simp; try with_reducible rfl
  try simp only [Act.put, List.setIfInBounds_toArray, List.set_cons_zero, List.set_cons_succ]
  refine wpList_nil ?_
  go_upto_region 9 with fail
  refine wp_region_lit ?_
  refine lv (by kernel_rfl) (some 44) rfl (v := ?_) ?_ ?_
  rotate_left
  · go_simp; try with_reducible rfl
  try simp only [Act.put, List.setIfInBounds_toArray, List.set_cons_zero, List.set_cons_succ]
  refine lv (by kernel_rfl) (some 43) rfl (v := ?_) ?_ ?_
  rotate_left
  · go_simp; try with_reducible rfl
  try simp only [Act.put, List.setIfInBounds_toArray, List.set_cons_zero, List.set_cons_succ]
  refine wpList_nil ?_
  go_upto_region 10 with fail
  refine wp_region_held_drew (S := fun w' => Mem w w' [(w.heap.size, 26, #[.int .u8 (P 0), .int .u8 (P 1), .int .u8 (P 2), .int .u8 (P 3), .int .u8 (P 4), .int .u8 (P 5), .int .u8 (P 6), .int .u8 (P 7), .int .u8 (P 8), .int .u8 (P 9), .int .u8 (P 10), .int .u8 (P 11), .int .u8 (P 12), .int .u8 (P 13), .int .u8 (P 14), .int .u8 (P 15), .int .i64 48]), (w.heap.size + 1, 31, a4 A), (w.heap.size + 1 + 1, 23, #[.int .u8 0, .int .u8 0, .int .u8 0, .int .u8 0, .int .u8 0, .int .u8 0, .int .u8 0, .int .u8 0, .int .u8 0, .int .u8 0, .int .u8 0, .int .u8 0, .int .u8 0, .int .u8 0, .int .u8 0, .int .u8 0])]) (by kernel_rfl) (Mem.init (l := [(w.heap.size, 26, #[.int .u8 (P 0), .int .u8 (P 1), .int .u8 (P 2), .int .u8 (P 3), .int .u8 (P 4), .int .u8 (P 5), .int .u8 (P 6), .int .u8 (P 7), .int .u8 (P 8), .int .u8 (P 9), .int .u8 (P 10), .int .u8 (P 11), .int .u8 (P 12), .int .u8 (P 13), .int .u8 (P 14), .int .u8 (P 15), .int .i64 48]), (w.heap.size + 1, 31, a4 A), (w.heap.size + 1 + 1, 23, #[.int .u8 0, .int .u8 0, .int .u8 0, .int .u8 0, .int .u8 0, .int .u8 0, .int .u8 0, .int .u8 0, .int .u8 0, .int .u8 0, .int .u8 0, .int .u8 0, .int .u8 0, .int .u8 0, .int .u8 0, .int .u8 0])]) M3.drew) (fun _ => ?_)
  have M4 := M3.drew
  refine tk (i := 0) (v := ?_) rfl (some 45) rfl (by kernel_rfl) (by kernel_rfl) (by kernel_rfl) (fun _ _ _ h => h) (Or.inl ⟨by kernel_rfl, ?_⟩) (Mem.init (l := [(w.heap.size, 26, #[.int .u8 (P 0), .int .u8 (P 1), .int .u8 (P 2), .int .u8 (P 3), .int .u8 (P 4), .int .u8 (P 5), .int .u8 (P 6), .int .u8 (P 7), .int .u8 (P 8), .int .u8 (P 9), .int .u8 (P 10), .int .u8 (P 11), .int .u8 (P 12), .int .u8 (P 13), .int .u8 (P 14), .int .u8 (P 15), .int .i64 48]), (w.heap.size + 1, 31, a4 A), (w.heap.size + 1 + 1, 23, #[.int .u8 0, .int .u8 0, .int .u8 0, .int .u8 0, .int .u8 0, .int .u8 0, .int .u8 0, .int .u8 0, .int .u8 0, .int .u8 0, .int .u8 0, .int .u8 0, .int .u8 0, .int .u8 0, .int .u8 0, .int .u8 0])]) M4) ?_
  rotate_left
  · intro w hS; go_simp; try with_reducible rfl
  try simp only [Act.put, List.setIfInBounds_toArray, List.set_cons_zero, List.set_cons_succ]
  refine tk (i := 1) rfl (some 46) rfl (by kernel_rfl) (by kernel_rfl) (by kernel_rfl) (fun _ _ _ h => h) (yi_cell 1 5 (.tmp 45) rfl rfl rfl _ rfl _ Try.underlying5 rfl) (Mem.init (l := [(w.heap.size, 26, #[.int .u8 (P 0), .int .u8 (P 1), .int .u8 (P 2), .int .u8 (P 3), .int .u8 (P 4), .int .u8 (P 5), .int .u8 (P 6), .int .u8 (P 7), .int .u8 (P 8), .int .u8 (P 9), .int .u8 (P 10), .int .u8 (P 11), .int .u8 (P 12), .int .u8 (P 13), .int .u8 (P 14), .int .u8 (P 15), .int .i64 48]), (w.heap.size + 1, 31, a4 A), (w.heap.size + 1 + 1, 23, #[.int .u8 0, .int .u8 0, .int .u8 0, .int .u8 0, .int .u8 0, .int .u8 0, .int .u8 0, .int .u8 0, .int .u8 0, .int .u8 0, .int .u8 0, .int .u8 0, .int .u8 0, .int .u8 0, .int .u8 0, .int .u8 0])]) M4) ?_
  try simp only [Act.put, List.setIfInBounds_toArray, List.set_cons_zero, List.set_cons_succ]
  refine tk (i := 2) (v := ?_) rfl (some 47) rfl (by kernel_rfl) (by kernel_rfl) (by kernel_rfl) (fun _ _ _ h => h) (Or.inl ⟨by kernel_rfl, ?_⟩) (Mem.init (l := [(w.heap.size, 26, #[.int .u8 (P 0), .int .u8 (P 1), .int .u8 (P 2), .int .u8 (P 3), .int .u8 (P 4), .int .u8 (P 5), .int .u8 (P 6), .int .u8 (P 7), .int .u8 (P 8), .int .u8 (P 9), .int .u8 (P 10), .int .u8 (P 11), .int .u8 (P 12), .int .u8 (P 13), .int .u8 (P 14), .int .u8 (P 15), .int .i64 48]), (w.heap.size + 1, 31, a4 A), (w.heap.size + 1 + 1, 23, #[.int .u8 0, .int .u8 0, .int .u8 0, .int .u8 0, .int .u8 0, .int .u8 0, .int .u8 0, .int .u8 0, .int .u8 0, .int .u8 0, .int .u8 0, .int .u8 0, .int .u8 0, .int .u8 0, .int .u8 0, .int .u8 0])]) M4) ?_
  rotate_left
  · intro w hS; go_simp; try with_reducible rfl
  try simp only [Act.put, List.setIfInBounds_toArray, List.set_cons_zero, List.set_cons_succ]
  refine tk (i := 3) rfl (some 48) rfl (by kernel_rfl) (by kernel_rfl) (by kernel_rfl) (fun _ _ _ h => h) (yi_cell 1 5 (.tmp 47) rfl rfl rfl _ rfl _ Try.underlying5 rfl) (Mem.init (l := [(w.heap.size, 26, #[.int .u8 (P 0), .int .u8 (P 1), .int .u8 (P 2), .int .u8 (P 3), .int .u8 (P 4), .int .u8 (P 5), .int .u8 (P 6), .int .u8 (P 7), .int .u8 (P 8), .int .u8 (P 9), .int .u8 (P 10), .int .u8 (P 11), .int .u8 (P 12), .int .u8 (P 13), .int .u8 (P 14), .int .u8 (P 15), .int .i64 48]), (w.heap.size + 1, 31, a4 A), (w.heap.size + 1 + 1, 23, #[.int .u8 0, .int .u8 0, .int .u8 0, .int .u8 0, .int .u8 0, .int .u8 0, .int .u8 0, .int .u8 0, .int .u8 0, .int .u8 0, .int .u8 0, .int .u8 0, .int .u8 0, .int .u8 0, .int .u8 0, .int .u8 0])]) M4) ?_
  try simp only [Act.put, List.setIfInBounds_toArray, List.set_cons_zero, List.set_cons_succ]
  refine tk (i := 4) (v := ?_) rfl (some 49) rfl (by kernel_rfl) (by kernel_rfl) (by kernel_rfl) (fun _ _ _ h => h) (Or.inl ⟨by kernel_rfl, ?_⟩) (Mem.init (l := [(w.heap.size, 26, #[.int .u8 (P 0), .int .u8 (P 1), .int .u8 (P 2), .int .u8 (P 3), .int .u8 (P 4), .int .u8 (P 5), .int .u8 (P 6), .int .u8 (P 7), .int .u8 (P 8), .int .u8 (P 9), .int .u8 (P 10), .int .u8 (P 11), .int .u8 (P 12), .int .u8 (P 13), .int .u8 (P 14), .int .u8 (P 15), .int .i64 48]), (w.heap.size + 1, 31, a4 A), (w.heap.size + 1 + 1, 23, #[.int .u8 0, .int .u8 0, .int .u8 0, .int .u8 0, .int .u8 0, .int .u8 0, .int .u8 0, .int .u8 0, .int .u8 0, .int .u8 0, .int .u8 0, .int .u8 0, .int .u8 0, .int .u8 0, .int .u8 0, .int .u8 0])]) M4) ?_
  rotate_left
  · intro w hS; go_simp; try with_reducible rfl
  try simp only [Act.put, List.setIfInBounds_toArray, List.set_cons_zero, List.set_cons_succ]
  refine tk (i := 5) rfl (some 50) rfl (by kernel_rfl) (by kernel_rfl) (by kernel_rfl) (fun _ _ _ h => h) (yi_cell 1 5 (.tmp 49) rfl rfl rfl _ rfl _ Try.underlying5 rfl) (Mem.init (l := [(w.heap.size, 26, #[.int .u8 (P 0), .int .u8 (P 1), .int .u8 (P 2), .int .u8 (P 3), .int .u8 (P 4), .int .u8 (P 5), .int .u8 (P 6), .int .u8 (P 7), .int .u8 (P 8), .int .u8 (P 9), .int .u8 (P 10), .int .u8 (P 11), .int .u8 (P 12), .int .u8 (P 13), .int .u8 (P 14), .int .u8 (P 15), .int .i64 48]), (w.heap.size + 1, 31, a4 A), (w.heap.size + 1 + 1, 23, #[.int .u8 0, .int .u8 0, .int .u8 0, .int .u8 0, .int .u8 0, .int .u8 0, .int .u8 0, .int .u8 0, .int .u8 0, .int .u8 0, .int .u8 0, .int .u8 0, .int .u8 0, .int .u8 0, .int .u8 0, .int .u8 0])]) M4) ?_
  try simp only [Act.put, List.setIfInBounds_toArray, List.set_cons_zero, List.set_cons_succ]
  refine tk (i := 6) (v := ?_) rfl (some 51) rfl (by kernel_rfl) (by kernel_rfl) (by kernel_rfl) (fun _ _ _ h => h) (Or.inl ⟨by kernel_rfl, ?_⟩) (Mem.init (l := [(w.heap.size, 26, #[.int .u8 (P 0), .int .u8 (P 1), .int .u8 (P 2), .int .u8 (P 3), .int .u8 (P 4), .int .u8 (P 5), .int .u8 (P 6), .int .u8 (P 7), .int .u8 (P 8), .int .u8 (P 9), .int .u8 (P 10), .int .u8 (P 11), .int .u8 (P 12), .int .u8 (P 13), .int .u8 (P 14), .int .u8 (P 15), .int .i64 48]), (w.heap.size + 1, 31, a4 A), (w.heap.size + 1 + 1, 23, #[.int .u8 0, .int .u8 0, .int .u8 0, .int .u8 0, .int .u8 0, .int .u8 0, .int .u8 0, .int .u8 0, .int .u8 0, .int .u8 0, .int .u8 0, .int .u8 0, .int .u8 0, .int .u8 0, .int .u8 0, .int .u8 0])]) M4) ?_
  rotate_left
  · intro w hS; go_simp; try with_reducible rfl
  try simp only [Act.put, List.setIfInBounds_toArray, List.set_cons_zero, List.set_cons_succ]
  refine tk (i := 7) rfl (some 52) rfl (by kernel_rfl) (by kernel_rfl) (by kernel_rfl) (fun _ _ _ h => h) (yi_cell 1 5 (.tmp 51) rfl rfl rfl _ rfl _ Try.underlying5 rfl) (Mem.init (l := [(w.heap.size, 26, #[.int .u8 (P 0), .int .u8 (P 1), .int .u8 (P 2), .int .u8 (P 3), .int .u8 (P 4), .int .u8 (P 5), .int .u8 (P 6), .int .u8 (P 7), .int .u8 (P 8), .int .u8 (P 9), .int .u8 (P 10), .int .u8 (P 11), .int .u8 (P 12), .int .u8 (P 13), .int .u8 (P 14), .int .u8 (P 15), .int .i64 48]), (w.heap.size + 1, 31, a4 A), (w.heap.size + 1 + 1, 23, #[.int .u8 0, .int .u8 0, .int .u8 0, .int .u8 0, .int .u8 0, .int .u8 0, .int .u8 0, .int .u8 0, .int .u8 0, .int .u8 0, .int .u8 0, .int .u8 0, .int .u8 0, .int .u8 0, .int .u8 0, .int .u8 0])]) M4) ?_
  try simp only [Act.put, List.setIfInBounds_toArray, List.set_cons_zero, List.set_cons_succ]
  refine tk (i := 8) (v := ?_) rfl (some 53) rfl (by kernel_rfl) (by kernel_rfl) (by kernel_rfl) (fun _ _ _ h => h) (Or.inl ⟨by kernel_rfl, ?_⟩) (Mem.init (l := [(w.heap.size, 26, #[.int .u8 (P 0), .int .u8 (P 1), .int .u8 (P 2), .int .u8 (P 3), .int .u8 (P 4), .int .u8 (P 5), .int .u8 (P 6), .int .u8 (P 7), .int .u8 (P 8), .int .u8 (P 9), .int .u8 (P 10), .int .u8 (P 11), .int .u8 (P 12), .int .u8 (P 13), .int .u8 (P 14), .int .u8 (P 15), .int .i64 48]), (w.heap.size + 1, 31, a4 A), (w.heap.size + 1 + 1, 23, #[.int .u8 0, .int .u8 0, .int .u8 0, .int .u8 0, .int .u8 0, .int .u8 0, .int .u8 0, .int .u8 0, .int .u8 0, .int .u8 0, .int .u8 0, .int .u8 0, .int .u8 0, .int .u8 0, .int .u8 0, .int .u8 0])]) M4) ?_
  rotate_left
  · intro w hS; go_simp; try with_reducible rfl
  try simp only [Act.put, List.setIfInBounds_toArray, List.set_cons_zero, List.set_cons_succ]
  refine wpAnyH_ready (rs := [9]) (by kernel_rfl) (by simp) ?_
  refine br_cell M4 3 rfl (by kernel_rfl) 5 (.tmp 53) _ rfl rfl rfl _ rfl _ rfl (by kernel_rfl) (by kernel_rfl) rfl rfl #[.int .u8 (P 0), .int .u8 (P 1), .int .u8 (P 2), .int .u8 (P 3), .int .u8 (P 4), .int .u8 (P 5), .int .u8 (A 0), .int .u8 (P 7), .int .u8 (P 8), .int .u8 (P 9), .int .u8 (P 10), .int .u8 (P 11), .int .u8 (P 12), .int .u8 (P 13), .int .u8 (P 14), .int .u8 (P 15)] (by kernel_rfl) _ rfl (fun w' M' => Mem.init (l := [(w.heap.size, 26, #[.int .u8 (P 0), .int .u8 (P 1), .int .u8 (P 2), .int .u8 (P 3), .int .u8 (P 4), .int .u8 (P 5), .int .u8 (P 6), .int .u8 (P 7), .int .u8 (P 8), .int .u8 (P 9), .int .u8 (P 10), .int .u8 (P 11), .int .u8 (P 12), .int .u8 (P 13), .int .u8 (P 14), .int .u8 (P 15), .int .i64 48]), (w.heap.size + 1, 31, a4 A), (w.heap.size + 1 + 1, 23, #[.int .u8 0, .int .u8 0, .int .u8 0, .int .u8 0, .int .u8 0, .int .u8 0, .int .u8 0, .int .u8 0, .int .u8 0, .int .u8 0, .int .u8 0, .int .u8 0, .int .u8 0, .int .u8 0, .int .u8 0, .int .u8 0])]) M') (fun s5 M5 => ?_) AllReadyH.nil
  clear M4
  try simp only [List.cons_append, List.nil_append, List.set_cons_zero, List.set_cons_succ] at M5
  try simp only [Act.put, List.setIfInBounds_toArray, List.set_cons_zero, List.set_cons_succ]
  refine tk (i := 10) (v := ?_) rfl (some 54) rfl (by kernel_rfl) (by kernel_rfl) (by kernel_rfl) (fun _ _ _ h => h) (Or.inl ⟨by kernel_rfl, ?_⟩) (Mem.init (l := [(w.heap.size, 26, #[.int .u8 (P 0), .int .u8 (P 1), .int .u8 (P 2), .int .u8 (P 3), .int .u8 (P 4), .int .u8 (P 5), .int .u8 (P 6), .int .u8 (P 7), .int .u8 (P 8), .int .u8 (P 9), .int .u8 (P 10), .int .u8 (P 11), .int .u8 (P 12), .int .u8 (P 13), .int .u8 (P 14), .int .u8 (P 15), .int .i64 48]), (w.heap.size + 1, 31, a4 A), (w.heap.size + 1 + 1, 23, #[.int .u8 0, .int .u8 0, .int .u8 0, .int .u8 0, .int .u8 0, .int .u8 0, .int .u8 0, .int .u8 0, .int .u8 0, .int .u8 0, .int .u8 0, .int .u8 0, .int .u8 0, .int .u8 0, .int .u8 0, .int .u8 0])]) M5) ?_
  rotate_left
  · intro w hS; go_simp; try with_reducible rfl
  try simp only [Act.put, List.setIfInBounds_toArray, List.set_cons_zero, List.set_cons_succ]
  refine wpAnyH_ready (rs := [11]) (by kernel_rfl) (by simp) ?_
  refine br_cell M5 3 rfl (by kernel_rfl) 5 (.tmp 54) _ rfl rfl rfl _ rfl _ rfl (by kernel_rfl) (by kernel_rfl) rfl rfl #[.int .u8 (P 0), .int .u8 (P 1), .int .u8 (P 2), .int .u8 (P 3), .int .u8 (P 4), .int .u8 (P 5), .int .u8 (A 0), .int .u8 (A 1), .int .u8 (P 8), .int .u8 (P 9), .int .u8 (P 10), .int .u8 (P 11), .int .u8 (P 12), .int .u8 (P 13), .int .u8 (P 14), .int .u8 (P 15)] (by kernel_rfl) _ rfl (fun w' M' => Mem.init (l := [(w.heap.size, 26, #[.int .u8 (P 0), .int .u8 (P 1), .int .u8 (P 2), .int .u8 (P 3), .int .u8 (P 4), .int .u8 (P 5), .int .u8 (P 6), .int .u8 (P 7), .int .u8 (P 8), .int .u8 (P 9), .int .u8 (P 10), .int .u8 (P 11), .int .u8 (P 12), .int .u8 (P 13), .int .u8 (P 14), .int .u8 (P 15), .int .i64 48]), (w.heap.size + 1, 31, a4 A), (w.heap.size + 1 + 1, 23, #[.int .u8 0, .int .u8 0, .int .u8 0, .int .u8 0, .int .u8 0, .int .u8 0, .int .u8 0, .int .u8 0, .int .u8 0, .int .u8 0, .int .u8 0, .int .u8 0, .int .u8 0, .int .u8 0, .int .u8 0, .int .u8 0])]) M') (fun s6 M6 => ?_) AllReadyH.nil
  clear M5
  try simp only [List.cons_append, List.nil_append, List.set_cons_zero, List.set_cons_succ] at M6
  try simp only [Act.put, List.setIfInBounds_toArray, List.set_cons_zero, List.set_cons_succ]
  refine tk (i := 12) (v := ?_) rfl (some 55) rfl (by kernel_rfl) (by kernel_rfl) (by kernel_rfl) (fun _ _ _ h => h) (Or.inl ⟨by kernel_rfl, ?_⟩) (Mem.init (l := [(w.heap.size, 26, #[.int .u8 (P 0), .int .u8 (P 1), .int .u8 (P 2), .int .u8 (P 3), .int .u8 (P 4), .int .u8 (P 5), .int .u8 (P 6), .int .u8 (P 7), .int .u8 (P 8), .int .u8 (P 9), .int .u8 (P 10), .int .u8 (P 11), .int .u8 (P 12), .int .u8 (P 13), .int .u8 (P 14), .int .u8 (P 15), .int .i64 48]), (w.heap.size + 1, 31, a4 A), (w.heap.size + 1 + 1, 23, #[.int .u8 0, .int .u8 0, .int .u8 0, .int .u8 0, .int .u8 0, .int .u8 0, .int .u8 0, .int .u8 0, .int .u8 0, .int .u8 0, .int .u8 0, .int .u8 0, .int .u8 0, .int .u8 0, .int .u8 0, .int .u8 0])]) M6) ?_
  rotate_left
  · intro w hS; go_simp; try with_reducible rfl
  try simp only [Act.put, List.setIfInBounds_toArray, List.set_cons_zero, List.set_cons_succ]
  refine wpAnyH_ready (rs := [13]) (by kernel_rfl) (by simp) ?_
  refine br_cell M6 3 rfl (by kernel_rfl) 5 (.tmp 55) _ rfl rfl rfl _ rfl _ rfl (by kernel_rfl) (by kernel_rfl) rfl rfl #[.int .u8 (P 0), .int .u8 (P 1), .int .u8 (P 2), .int .u8 (P 3), .int .u8 (P 4), .int .u8 (P 5), .int .u8 (A 0), .int .u8 (A 1), .int .u8 (P 8), .int .u8 (A 2), .int .u8 (P 10), .int .u8 (P 11), .int .u8 (P 12), .int .u8 (P 13), .int .u8 (P 14), .int .u8 (P 15)] (by kernel_rfl) _ rfl (fun w' M' => Mem.init (l := [(w.heap.size, 26, #[.int .u8 (P 0), .int .u8 (P 1), .int .u8 (P 2), .int .u8 (P 3), .int .u8 (P 4), .int .u8 (P 5), .int .u8 (P 6), .int .u8 (P 7), .int .u8 (P 8), .int .u8 (P 9), .int .u8 (P 10), .int .u8 (P 11), .int .u8 (P 12), .int .u8 (P 13), .int .u8 (P 14), .int .u8 (P 15), .int .i64 48]), (w.heap.size + 1, 31, a4 A), (w.heap.size + 1 + 1, 23, #[.int .u8 0, .int .u8 0, .int .u8 0, .int .u8 0, .int .u8 0, .int .u8 0, .int .u8 0, .int .u8 0, .int .u8 0, .int .u8 0, .int .u8 0, .int .u8 0, .int .u8 0, .int .u8 0, .int .u8 0, .int .u8 0])]) M') (fun s7 M7 => ?_) AllReadyH.nil
  clear M6
  try simp only [List.cons_append, List.nil_append, List.set_cons_zero, List.set_cons_succ] at M7
  try simp only [Act.put, List.setIfInBounds_toArray, List.set_cons_zero, List.set_cons_succ]
  refine tk (i := 14) (v := ?_) rfl (some 56) rfl (by kernel_rfl) (by kernel_rfl) (by kernel_rfl) (fun _ _ _ h => h) (Or.inl ⟨by kernel_rfl, ?_⟩) (Mem.init (l := [(w.heap.size, 26, #[.int .u8 (P 0), .int .u8 (P 1), .int .u8 (P 2), .int .u8 (P 3), .int .u8 (P 4), .int .u8 (P 5), .int .u8 (P 6), .int .u8 (P 7), .int .u8 (P 8), .int .u8 (P 9), .int .u8 (P 10), .int .u8 (P 11), .int .u8 (P 12), .int .u8 (P 13), .int .u8 (P 14), .int .u8 (P 15), .int .i64 48]), (w.heap.size + 1, 31, a4 A), (w.heap.size + 1 + 1, 23, #[.int .u8 0, .int .u8 0, .int .u8 0, .int .u8 0, .int .u8 0, .int .u8 0, .int .u8 0, .int .u8 0, .int .u8 0, .int .u8 0, .int .u8 0, .int .u8 0, .int .u8 0, .int .u8 0, .int .u8 0, .int .u8 0])]) M7) ?_
  rotate_left
  · intro w hS; go_simp; try with_reducible rfl
  try simp only [Act.put, List.setIfInBounds_toArray, List.set_cons_zero, List.set_cons_succ]
  refine wpAnyH_ready (rs := [15]) (by kernel_rfl) (by simp) ?_
  refine br_cell M7 3 rfl (by kernel_rfl) 5 (.tmp 56) _ rfl rfl rfl _ rfl _ rfl (by kernel_rfl) (by kernel_rfl) rfl rfl #[.int .u8 (P 0), .int .u8 (P 1), .int .u8 (P 2), .int .u8 (P 3), .int .u8 (P 4), .int .u8 (P 5), .int .u8 (A 0), .int .u8 (A 1), .int .u8 (P 8), .int .u8 (A 2), .int .u8 (A 3), .int .u8 (P 11), .int .u8 (P 12), .int .u8 (P 13), .int .u8 (P 14), .int .u8 (P 15)] (by kernel_rfl) _ rfl (fun w' M' => Mem.init (l := [(w.heap.size, 26, #[.int .u8 (P 0), .int .u8 (P 1), .int .u8 (P 2), .int .u8 (P 3), .int .u8 (P 4), .int .u8 (P 5), .int .u8 (P 6), .int .u8 (P 7), .int .u8 (P 8), .int .u8 (P 9), .int .u8 (P 10), .int .u8 (P 11), .int .u8 (P 12), .int .u8 (P 13), .int .u8 (P 14), .int .u8 (P 15), .int .i64 48]), (w.heap.size + 1, 31, a4 A), (w.heap.size + 1 + 1, 23, #[.int .u8 0, .int .u8 0, .int .u8 0, .int .u8 0, .int .u8 0, .int .u8 0, .int .u8 0, .int .u8 0, .int .u8 0, .int .u8 0, .int .u8 0, .int .u8 0, .int .u8 0, .int .u8 0, .int .u8 0, .int .u8 0])]) M') (fun s8 M8 => ?_) AllReadyH.nil
  clear M7
  try simp only [List.cons_append, List.nil_append, List.set_cons_zero, List.set_cons_succ] at M8
  try simp only [Act.put, List.setIfInBounds_toArray, List.set_cons_zero, List.set_cons_succ]
  refine wpAnyH_done (by kernel_rfl) ?_ _
  go_upto_region 17 with fail
  refine wp_region_lit ?_
  refine ly M8 (some 99) rfl (yi_row 3 23 (.tmp 6) rfl rfl rfl rfl Try.underlying23 rfl (by kernel_rfl)) ?_
  try simp only [Act.put, List.setIfInBounds_toArray, List.set_cons_zero, List.set_cons_succ]
  refine l_store M8 2 rfl 23 (.tmp 4) _ rfl rfl rfl rfl _ rfl (by kernel_rfl) (by rfl) (by kernel_rfl) _ rfl (fun s9 M9 => ?_)
  clear M8
  try simp only [List.cons_append, List.nil_append, List.set_cons_zero, List.set_cons_succ] at M9
  try simp only [Act.put, List.setIfInBounds_toArray, List.set_cons_zero, List.set_cons_succ]
  refine lv (by kernel_rfl) (some 5) rfl (v := ?_) ?_ ?_
  rotate_left
  · go_simp; try with_reducible rfl
  try simp only [Act.put, List.setIfInBounds_toArray, List.set_cons_zero, List.set_cons_succ]
  refine wpList_nil ?_
  go_wp2_with fail
  exact bodyPost_ret (v := .tuple #[.agg #[.int .u8 (P 0), .int .u8 (P 1), .int .u8 (P 2), .int .u8 (P 3), .int .u8 (P 4), .int .u8 (P 5), .int .u8 (A 0), .int .u8 (A 1), .int .u8 (P 8), .int .u8 (A 2), .int .u8 (A 3), .int .u8 (P 11), .int .u8 (P 12), .int .u8 (P 13), .int .u8 (P 14), .int .u8 (P 15)], .bool true]) (results_cell_tmp rfl (M9.row (i := 2) rfl) _ rfl _ rfl Try.underlying23 rfl (by kernel_rfl)) rfl ⟨rfl, M9.below⟩
set_option maxRecDepth 100000 in
set_option maxHeartbeats 4000000 in
theorem rextract_48 (P X : Nat → Int) (w : World) (h : InsideP P X 48) (h8 : X 8 = 0) : Calls Try.prog 17 #[net P 48, .agg (a16 X)] w fun e w' => e = .returned (.tuple #[.agg #[.int .u8 (X 6), .int .u8 (X 7), .int .u8 (X 9), .int .u8 (X 10)], .bool true]) ∧ Below w.heap.size w w' := by
  have c20 := fun w => rinside_any P X 48 w true (by simp [h])
  have t8 : (X 8 != 0) = false := by simp [h8]
  clear h h8
  go_enter Try.func17, Try.ntmps17
  go_upto_region 1 with fail
  refine hide_w (Mem.three w 26 23 31 #[.int .u8 (P 0), .int .u8 (P 1), .int .u8 (P 2), .int .u8 (P 3), .int .u8 (P 4), .int .u8 (P 5), .int .u8 (P 6), .int .u8 (P 7), .int .u8 (P 8), .int .u8 (P 9), .int .u8 (P 10), .int .u8 (P 11), .int .u8 (P 12), .int .u8 (P 13), .int .u8 (P 14), .int .u8 (P 15), .int .i64 48] (a16 X) #[.int .u8 0, .int .u8 0, .int .u8 0, .int .u8 0]) (fun w0 M0 => ?_)
  refine wp_region_lit ?_
  refine ly M0 (some 6) rfl (yi_row 0 26 (.tmp 2) rfl rfl rfl rfl Try.underlying26 rfl (by kernel_rfl)) ?_
  try simp only [Act.put, List.setIfInBounds_toArray, List.set_cons_zero, List.set_cons_succ]
  refine ly M0 (some 7) rfl (yi_row 1 23 (.tmp 3) rfl rfl rfl rfl Try.underlying23 rfl (by kernel_rfl)) ?_
  try simp only [Act.put, List.setIfInBounds_toArray, List.set_cons_zero, List.set_cons_succ]
  refine l_call rfl (some 8) rfl (c20 _) (by kernel_rfl) (fun s1 hb1 => ?_)
  have M1 := M0.call hb1
  clear hb1 M0
  try simp only [Act.put, List.setIfInBounds_toArray, List.set_cons_zero, List.set_cons_succ]
  refine lv (by kernel_rfl) (some 9) rfl (v := ?_) ?_ ?_
  rotate_left
  · go_simp; try with_reducible rfl
  try simp only [Act.put, List.setIfInBounds_toArray, List.set_cons_zero, List.set_cons_succ]
  refine lv (by kernel_rfl) (some 10) rfl (v := ?_) ?_ ?_
  rotate_left
  · go_simp; try with_reducible rfl
  try simp only [Act.put, List.setIfInBounds_toArray, List.set_cons_zero, List.set_cons_succ]
  refine lv (by kernel_rfl) (some 11) rfl (v := ?_) ?_ ?_
  rotate_left
  · go_simp; try with_reducible rfl
  try simp only [Act.put, List.setIfInBounds_toArray, List.set_cons_zero, List.set_cons_succ]
  refine ly M1 (some 12) rfl (yi_cell 1 5 (.tmp 11) rfl rfl rfl _ rfl _ Try.underlying5 rfl) ?_
  try simp only [Act.put, List.setIfInBounds_toArray, List.set_cons_zero, List.set_cons_succ]
  refine lv (by kernel_rfl) (some 13) rfl (v := ?_) ?_ ?_
  rotate_left
  · go_simp; try with_reducible rfl
  try simp only [Act.put, List.setIfInBounds_toArray, List.set_cons_zero, List.set_cons_succ]
  refine lv (by kernel_rfl) (some 14) rfl (v := ?_) ?_ ?_
  rotate_left
  · go_simp; try with_reducible rfl
  try simp only [Act.put, List.setIfInBounds_toArray, List.set_cons_zero, List.set_cons_succ]
  refine wpList_nil ?_
  go_upto_region 3 with fail
  refine wp_region_lit ?_
  refine lv (by kernel_rfl) (some 16) rfl (v := ?_) ?_ ?_
  rotate_left
  · go_simp; try with_reducible rfl
  try simp only [Act.put, List.setIfInBounds_toArray, List.set_cons_zero, List.set_cons_succ]
  refine ly M1 (some 17) rfl (yi_cell 0 3 (.tmp 16) rfl rfl rfl _ rfl _ Try.underlying3 rfl) ?_
  try simp only [Act.put, List.setIfInBounds_toArray, List.set_cons_zero, List.set_cons_succ]
  refine wpList_nil ?_
  go_upto_region 4 with fail
  refine wp_region_lit ?_
  refine lv (by kernel_rfl) (some 19) rfl (v := ?_) ?_ ?_
  rotate_left
  · go_simp; try with_reducible rfl
  try simp only [Act.put, List.setIfInBounds_toArray, List.set_cons_zero, List.set_cons_succ]
  refine lv (by kernel_rfl) (some 18) rfl (v := ?_) ?_ ?_
  rotate_left
  · go_simp; try with_reducible rfl
  try simp only [Act.put, List.setIfInBounds_toArray, List.set_cons_zero, List.set_cons_succ]
  refine wpList_nil ?_
  go_upto_region 6 with fail
  refine wp_region_lit ?_
  refine lv (by kernel_rfl) (some 30) rfl (v := ?_) ?_ ?_
  rotate_left
  · go_simp; try with_reducible rfl
  try simp only [Act.put, List.setIfInBounds_toArray, List.set_cons_zero, List.set_cons_succ]
  refine lv (by kernel_rfl) (some 29) rfl (v := ?_) ?_ ?_
  rotate_left
  · go_simp; try with_reducible rfl
  try simp only [Act.put, List.setIfInBounds_toArray, List.set_cons_zero, List.set_cons_succ]
  refine wpList_nil ?_
  go_upto_region 8 with fail
  refine wp_region_lit ?_
  refine lv (by kernel_rfl) (some 41) rfl (v := ?_) ?_ ?_
  rotate_left
  · go_simp; try with_reducible rfl
  try simp only [Act.put, List.setIfInBounds_toArray, List.set_cons_zero, List.set_cons_succ]
  refine lv (by kernel_rfl) (some 40) rfl (v := ?_) ?_ ?_
  rotate_left
  · go_simp; try with_reducible rfl
  try simp only [Act.put, List.setIfInBounds_toArray, List.set_cons_zero, List.set_cons_succ]
  refine wpList_nil ?_
  go_upto_region 9 with fail
  refine wp_region_lit ?_
  refine lv (by kernel_rfl) (some 42) rfl (v := ?_) ?_ ?_
  rotate_left
  · go_simp; try with_reducible rfl
  try simp only [Act.put, List.setIfInBounds_toArray, List.set_cons_zero, List.set_cons_succ]
  refine ly M1 (some 43) rfl (yi_cell 1 5 (.tmp 42) rfl rfl rfl _ rfl _ Try.underlying5 rfl) ?_
  try simp only [Act.put, List.setIfInBounds_toArray, List.set_cons_zero, List.set_cons_succ]
  refine lv (by kernel_rfl) (some 44) rfl (v := ?_) ?_ ?_
  rotate_left
  · go_simp; try with_reducible rfl
  try simp only [Act.put, List.setIfInBounds_toArray, List.set_cons_zero, List.set_cons_succ]
  refine ly M1 (some 45) rfl (yi_cell 1 5 (.tmp 44) rfl rfl rfl _ rfl _ Try.underlying5 rfl) ?_
  try simp only [Act.put, List.setIfInBounds_toArray, List.set_cons_zero, List.set_cons_succ]
  refine lv (by kernel_rfl) (some 46) rfl (v := ?_) ?_ ?_
  rotate_left
  · go_simp; try with_reducible rfl
  try simp only [Act.put, List.setIfInBounds_toArray, List.set_cons_zero, List.set_cons_succ]
  refine ly M1 (some 47) rfl (yi_cell 1 5 (.tmp 46) rfl rfl rfl _ rfl _ Try.underlying5 rfl) ?_
  try simp only [Act.put, List.setIfInBounds_toArray, List.set_cons_zero, List.set_cons_succ]
  refine lv (by kernel_rfl) (some 48) rfl (v := ?_) ?_ ?_
  rotate_left
  · go_simp; try with_reducible rfl
  try simp only [Act.put, List.setIfInBounds_toArray, List.set_cons_zero, List.set_cons_succ]
  refine ly M1 (some 49) rfl (yi_cell 1 5 (.tmp 48) rfl rfl rfl _ rfl _ Try.underlying5 rfl) ?_
  try simp only [Act.put, List.setIfInBounds_toArray, List.set_cons_zero, List.set_cons_succ]
  refine lv (by kernel_rfl) (some 50) rfl (v := ?_) ?_ ?_
  rotate_left
  · go_simp; try with_reducible rfl
  try simp only [Act.put, List.setIfInBounds_toArray, List.set_cons_zero, List.set_cons_succ]
  refine l_store M1 2 rfl 31 (.tmp 4) _ rfl rfl rfl rfl _ rfl (by kernel_rfl) (by rfl) (by kernel_rfl) _ rfl (fun s2 M2 => ?_)
  clear M1
  try simp only [List.cons_append, List.nil_append, List.set_cons_zero, List.set_cons_succ] at M2
  try simp only [Act.put, List.setIfInBounds_toArray, List.set_cons_zero, List.set_cons_succ]
  refine lv (by kernel_rfl) (some 5) rfl (v := ?_) ?_ ?_
  rotate_left
  · go_simp; try with_reducible rfl
  try simp only [Act.put, List.setIfInBounds_toArray, List.set_cons_zero, List.set_cons_succ]
  refine wpList_nil ?_
  go_wp2_with fail
  exact bodyPost_ret (v := .tuple #[.agg #[.int .u8 (X 6), .int .u8 (X 7), .int .u8 (X 9), .int .u8 (X 10)], .bool true]) (results_cell_tmp rfl (M2.row (i := 2) rfl) _ rfl _ rfl Try.underlying31 rfl (by kernel_rfl)) rfl ⟨rfl, M2.below⟩
set_option maxRecDepth 100000 in
set_option maxHeartbeats 4000000 in
theorem rembed_56 (P A : Nat → Int) (w : World) (h : RightP P 56) : Calls Try.prog 16 #[net P 56, .agg (a4 A)] w fun e w' => e = .returned (.tuple #[.agg #[.int .u8 (P 0), .int .u8 (P 1), .int .u8 (P 2), .int .u8 (P 3), .int .u8 (P 4), .int .u8 (P 5), .int .u8 (P 6), .int .u8 (A 0), .int .u8 (P 8), .int .u8 (A 1), .int .u8 (A 2), .int .u8 (A 3), .int .u8 (P 12), .int .u8 (P 13), .int .u8 (P 14), .int .u8 (P 15)], .bool true]) ∧ Below w.heap.size w w' := by
  have c18 := fun w => rright_t P 56 w h
  clear h
  go_enter Try.func16, Try.ntmps16
  go_upto_region 1 with fail
  refine hide_w (Mem.three w 26 31 23 #[.int .u8 (P 0), .int .u8 (P 1), .int .u8 (P 2), .int .u8 (P 3), .int .u8 (P 4), .int .u8 (P 5), .int .u8 (P 6), .int .u8 (P 7), .int .u8 (P 8), .int .u8 (P 9), .int .u8 (P 10), .int .u8 (P 11), .int .u8 (P 12), .int .u8 (P 13), .int .u8 (P 14), .int .u8 (P 15), .int .i64 56] (a4 A) #[.int .u8 0, .int .u8 0, .int .u8 0, .int .u8 0, .int .u8 0, .int .u8 0, .int .u8 0, .int .u8 0, .int .u8 0, .int .u8 0, .int .u8 0, .int .u8 0, .int .u8 0, .int .u8 0, .int .u8 0, .int .u8 0]) (fun w0 M0 => ?_)
  refine wp_region_lit ?_
  refine lv (by kernel_rfl) (some 7) rfl (v := ?_) ?_ ?_
  rotate_left
  · go_simp; try with_reducible rfl
  try simp only [Act.put, List.setIfInBounds_toArray, List.set_cons_zero, List.set_cons_succ]
  refine ly M0 (some 8) rfl (yi_part 0 23 (.tmp 7) rfl rfl rfl 0 rfl (a16 P) Try.underlying23 rfl (by kernel_rfl) (by kernel_rfl)) ?_
  try simp only [Act.put, List.setIfInBounds_toArray, List.set_cons_zero, List.set_cons_succ]
  refine l_alloc rfl (some 6) rfl #[.int .u8 0, .int .u8 0, .int .u8 0, .int .u8 0, .int .u8 0, .int .u8 0, .int .u8 0, .int .u8 0, .int .u8 0, .int .u8 0, .int .u8 0, .int .u8 0, .int .u8 0, .int .u8 0, .int .u8 0, .int .u8 0] 23 (by kernel_rfl) ?_
  have M1 := M0.new rfl 23 #[.int .u8 0, .int .u8 0, .int .u8 0, .int .u8 0, .int .u8 0, .int .u8 0, .int .u8 0, .int .u8 0, .int .u8 0, .int .u8 0, .int .u8 0, .int .u8 0, .int .u8 0, .int .u8 0, .int .u8 0, .int .u8 0]
  clear M0
  try simp only [List.cons_append, List.nil_append, List.set_cons_zero, List.set_cons_succ] at M1
  try simp only [Act.put, List.setIfInBounds_toArray, List.set_cons_zero, List.set_cons_succ]
  refine l_store M1 3 rfl 23 (.tmp 6) _ rfl rfl rfl rfl _ rfl (by kernel_rfl) (by rfl) (by kernel_rfl) _ rfl (fun s2 M2 => ?_)
  clear M1
  try simp only [List.cons_append, List.nil_append, List.set_cons_zero, List.set_cons_succ] at M2
  try simp only [Act.put, List.setIfInBounds_toArray, List.set_cons_zero, List.set_cons_succ]
  refine wpList_nil ?_
  go_upto_region 2 with fail
  refine wp_region_lit ?_
  refine ly M2 (some 9) rfl (yi_row 0 26 (.tmp 2) rfl rfl rfl rfl Try.underlying26 rfl (by kernel_rfl)) ?_
  try simp only [Act.put, List.setIfInBounds_toArray, List.set_cons_zero, List.set_cons_succ]
  refine l_call rfl (some 10) rfl (c18 _) (by kernel_rfl) (fun s3 hb3 => ?_)
  have M3 := M2.call hb3
  clear hb3 M2
  try simp only [Act.put, List.setIfInBounds_toArray, List.set_cons_zero, List.set_cons_succ]
  refine lv (by kernel_rfl) (some 11) rfl (v := ?_) ?_ ?_
  rotate_left
  · go_simp; try with_reducible rfl
  try simp only [Act.put, List.setIfInBounds_toArray, List.set_cons_zero, List.set_cons_succ]
  refine wpList_nil ?_
  go_upto_region 4 with fail
  refine wp_region_lit ?_
  refine lv (by kernel_rfl) (some 13) rfl (v := ?_) ?_ ?_
  rotate_left
  · go_simp; try with_reducible rfl
  try simp only [Act.put, List.setIfInBounds_toArray, List.set_cons_zero, List.set_cons_succ]
  refine ly M3 (some 14) rfl (yi_cell 0 3 (.tmp 13) rfl rfl rfl _ rfl _ Try.underlying3 rfl) ?_
  try simp only [Act.put, List.setIfInBounds_toArray, List.set_cons_zero, List.set_cons_succ]
  refine wpList_nil ?_
  go_upto_region 5 with fail
  refine wp_region_lit ?_
  refine lv (by kernel_rfl) (some 16) rfl (v := ?_) ?_ ?_
  rotate_left
  · go_simp; try with_reducible rfl
  try simp only [Act.put, List.setIfInBounds_toArray, List.set_cons_zero, List.set_cons_succ]
  refine lv (by kernel_rfl) (some 15) rfl (v := ?_) ?_ ?_
  rotate_left
  · go_simp; try with_reducible rfl
  try simp only [Act.put, List.setIfInBounds_toArray, List.set_cons_zero, List.set_cons_succ]
  refine wpList_nil ?_
  go_upto_region 7 with fail
  refine wp_region_lit ?_
  refine lv (by kernel_rfl) (some 30) rfl (v := ?_) ?_ ?_
  rotate_left
  · go_simp; try with_reducible rfl
  try simp only [Act.put, List.setIfInBounds_toArray, List.set_cons_zero, List.set_cons_succ]
  refine lv (by kernel_rfl) (some 29) rfl (v := ?_) ?_ ?_
  rotate_left
  · go_simp; try with_reducible rfl
  try simp only [Act.put, List.setIfInBounds_toArray, List.set_cons_zero, List.set_cons_succ]
  refine wpList_nil ?_
  go_upto_region 9 with fail
  refine wp_region_lit ?_
  refine lv (by kernel_rfl) (some 44) rfl (v := ?_) ?_ ?_
  rotate_left
  · go_simp; try with_reducible rfl
  try simp only [Act.put, List.setIfInBounds_toArray, List.set_cons_zero, List.set_cons_succ]
  refine lv (by kernel_rfl) (some 43) rfl (v := ?_) ?_ ?_
  rotate_left
  · go_simp; try with_reducible rfl
  try simp only [Act.put, List.setIfInBounds_toArray, List.set_cons_zero, List.set_cons_succ]
  refine wpList_nil ?_
  go_upto_region 11 with fail
  refine wp_region_lit ?_
  refine lv (by kernel_rfl) (some 58) rfl (v := ?_) ?_ ?_
  rotate_left
  · go_simp; try with_reducible rfl
  try simp only [Act.put, List.setIfInBounds_toArray, List.set_cons_zero, List.set_cons_succ]
  refine lv (by kernel_rfl) (some 57) rfl (v := ?_) ?_ ?_
  rotate_left
  · go_simp; try with_reducible rfl
  try simp only [Act.put, List.setIfInBounds_toArray, List.set_cons_zero, List.set_cons_succ]
  refine wpList_nil ?_
  go_upto_region 12 with fail
  refine wp_region_held_drew (S := fun w' => Mem w w' [(w.heap.size, 26, #[.int .u8 (P 0), .int .u8 (P 1), .int .u8 (P 2), .int .u8 (P 3), .int .u8 (P 4), .int .u8 (P 5), .int .u8 (P 6), .int .u8 (P 7), .int .u8 (P 8), .int .u8 (P 9), .int .u8 (P 10), .int .u8 (P 11), .int .u8 (P 12), .int .u8 (P 13), .int .u8 (P 14), .int .u8 (P 15), .int .i64 56]), (w.heap.size + 1, 31, a4 A), (w.heap.size + 1 + 1, 23, #[.int .u8 0, .int .u8 0, .int .u8 0, .int .u8 0, .int .u8 0, .int .u8 0, .int .u8 0, .int .u8 0, .int .u8 0, .int .u8 0, .int .u8 0, .int .u8 0, .int .u8 0, .int .u8 0, .int .u8 0, .int .u8 0])]) (by kernel_rfl) (Mem.init (l := [(w.heap.size, 26, #[.int .u8 (P 0), .int .u8 (P 1), .int .u8 (P 2), .int .u8 (P 3), .int .u8 (P 4), .int .u8 (P 5), .int .u8 (P 6), .int .u8 (P 7), .int .u8 (P 8), .int .u8 (P 9), .int .u8 (P 10), .int .u8 (P 11), .int .u8 (P 12), .int .u8 (P 13), .int .u8 (P 14), .int .u8 (P 15), .int .i64 56]), (w.heap.size + 1, 31, a4 A), (w.heap.size + 1 + 1, 23, #[.int .u8 0, .int .u8 0, .int .u8 0, .int .u8 0, .int .u8 0, .int .u8 0, .int .u8 0, .int .u8 0, .int .u8 0, .int .u8 0, .int .u8 0, .int .u8 0, .int .u8 0, .int .u8 0, .int .u8 0, .int .u8 0])]) M3.drew) (fun _ => ?_)
  have M4 := M3.drew
  refine tk (i := 0) (v := ?_) rfl (some 59) rfl (by kernel_rfl) (by kernel_rfl) (by kernel_rfl) (fun _ _ _ h => h) (Or.inl ⟨by kernel_rfl, ?_⟩) (Mem.init (l := [(w.heap.size, 26, #[.int .u8 (P 0), .int .u8 (P 1), .int .u8 (P 2), .int .u8 (P 3), .int .u8 (P 4), .int .u8 (P 5), .int .u8 (P 6), .int .u8 (P 7), .int .u8 (P 8), .int .u8 (P 9), .int .u8 (P 10), .int .u8 (P 11), .int .u8 (P 12), .int .u8 (P 13), .int .u8 (P 14), .int .u8 (P 15), .int .i64 56]), (w.heap.size + 1, 31, a4 A), (w.heap.size + 1 + 1, 23, #[.int .u8 0, .int .u8 0, .int .u8 0, .int .u8 0, .int .u8 0, .int .u8 0, .int .u8 0, .int .u8 0, .int .u8 0, .int .u8 0, .int .u8 0, .int .u8 0, .int .u8 0, .int .u8 0, .int .u8 0, .int .u8 0])]) M4) ?_
  rotate_left
  · intro w hS; go_simp; try with_reducible rfl
  try simp only [Act.put, List.setIfInBounds_toArray, List.set_cons_zero, List.set_cons_succ]
  refine tk (i := 1) rfl (some 60) rfl (by kernel_rfl) (by kernel_rfl) (by kernel_rfl) (fun _ _ _ h => h) (yi_cell 1 5 (.tmp 59) rfl rfl rfl _ rfl _ Try.underlying5 rfl) (Mem.init (l := [(w.heap.size, 26, #[.int .u8 (P 0), .int .u8 (P 1), .int .u8 (P 2), .int .u8 (P 3), .int .u8 (P 4), .int .u8 (P 5), .int .u8 (P 6), .int .u8 (P 7), .int .u8 (P 8), .int .u8 (P 9), .int .u8 (P 10), .int .u8 (P 11), .int .u8 (P 12), .int .u8 (P 13), .int .u8 (P 14), .int .u8 (P 15), .int .i64 56]), (w.heap.size + 1, 31, a4 A), (w.heap.size + 1 + 1, 23, #[.int .u8 0, .int .u8 0, .int .u8 0, .int .u8 0, .int .u8 0, .int .u8 0, .int .u8 0, .int .u8 0, .int .u8 0, .int .u8 0, .int .u8 0, .int .u8 0, .int .u8 0, .int .u8 0, .int .u8 0, .int .u8 0])]) M4) ?_
  try simp only [Act.put, List.setIfInBounds_toArray, List.set_cons_zero, List.set_cons_succ]
  refine tk (i := 2) (v := ?_) rfl (some 61) rfl (by kernel_rfl) (by kernel_rfl) (by kernel_rfl) (fun _ _ _ h => h) (Or.inl ⟨by kernel_rfl, ?_⟩) (Mem.init (l := [(w.heap.size, 26, #[.int .u8 (P 0), .int .u8 (P 1), .int .u8 (P 2), .int .u8 (P 3), .int .u8 (P 4), .int .u8 (P 5), .int .u8 (P 6), .int .u8 (P 7), .int .u8 (P 8), .int .u8 (P 9), .int .u8 (P 10), .int .u8 (P 11), .int .u8 (P 12), .int .u8 (P 13), .int .u8 (P 14), .int .u8 (P 15), .int .i64 56]), (w.heap.size + 1, 31, a4 A), (w.heap.size + 1 + 1, 23, #[.int .u8 0, .int .u8 0, .int .u8 0, .int .u8 0, .int .u8 0, .int .u8 0, .int .u8 0, .int .u8 0, .int .u8 0, .int .u8 0, .int .u8 0, .int .u8 0, .int .u8 0, .int .u8 0, .int .u8 0, .int .u8 0])]) M4) ?_
  rotate_left
  · intro w hS; go_simp; try with_reducible rfl
  try simp only [Act.put, List.setIfInBounds_toArray, List.set_cons_zero, List.set_cons_succ]
  refine tk (i := 3) rfl (some 62) rfl (by kernel_rfl) (by kernel_rfl) (by kernel_rfl) (fun _ _ _ h => h) (yi_cell 1 5 (.tmp 61) rfl rfl rfl _ rfl _ Try.underlying5 rfl) (Mem.init (l := [(w.heap.size, 26, #[.int .u8 (P 0), .int .u8 (P 1), .int .u8 (P 2), .int .u8 (P 3), .int .u8 (P 4), .int .u8 (P 5), .int .u8 (P 6), .int .u8 (P 7), .int .u8 (P 8), .int .u8 (P 9), .int .u8 (P 10), .int .u8 (P 11), .int .u8 (P 12), .int .u8 (P 13), .int .u8 (P 14), .int .u8 (P 15), .int .i64 56]), (w.heap.size + 1, 31, a4 A), (w.heap.size + 1 + 1, 23, #[.int .u8 0, .int .u8 0, .int .u8 0, .int .u8 0, .int .u8 0, .int .u8 0, .int .u8 0, .int .u8 0, .int .u8 0, .int .u8 0, .int .u8 0, .int .u8 0, .int .u8 0, .int .u8 0, .int .u8 0, .int .u8 0])]) M4) ?_
  try simp only [Act.put, List.setIfInBounds_toArray, List.set_cons_zero, List.set_cons_succ]
  refine tk (i := 4) (v := ?_) rfl (some 63) rfl (by kernel_rfl) (by kernel_rfl) (by kernel_rfl) (fun _ _ _ h => h) (Or.inl ⟨by kernel_rfl, ?_⟩) (Mem.init (l := [(w.heap.size, 26, #[.int .u8 (P 0), .int .u8 (P 1), .int .u8 (P 2), .int .u8 (P 3), .int .u8 (P 4), .int .u8 (P 5), .int .u8 (P 6), .int .u8 (P 7), .int .u8 (P 8), .int .u8 (P 9), .int .u8 (P 10), .int .u8 (P 11), .int .u8 (P 12), .int .u8 (P 13), .int .u8 (P 14), .int .u8 (P 15), .int .i64 56]), (w.heap.size + 1, 31, a4 A), (w.heap.size + 1 + 1, 23, #[.int .u8 0, .int .u8 0, .int .u8 0, .int .u8 0, .int .u8 0, .int .u8 0, .int .u8 0, .int .u8 0, .int .u8 0, .int .u8 0, .int .u8 0, .int .u8 0, .int .u8 0, .int .u8 0, .int .u8 0, .int .u8 0])]) M4) ?_
  rotate_left
  · intro w hS; go_simp; try with_reducible rfl
  try simp only [Act.put, List.setIfInBounds_toArray, List.set_cons_zero, List.set_cons_succ]
  refine tk (i := 5) rfl (some 64) rfl (by kernel_rfl) (by kernel_rfl) (by kernel_rfl) (fun _ _ _ h => h) (yi_cell 1 5 (.tmp 63) rfl rfl rfl _ rfl _ Try.underlying5 rfl) (Mem.init (l := [(w.heap.size, 26, #[.int .u8 (P 0), .int .u8 (P 1), .int .u8 (P 2), .int .u8 (P 3), .int .u8 (P 4), .int .u8 (P 5), .int .u8 (P 6), .int .u8 (P 7), .int .u8 (P 8), .int .u8 (P 9), .int .u8 (P 10), .int .u8 (P 11), .int .u8 (P 12), .int .u8 (P 13), .int .u8 (P 14), .int .u8 (P 15), .int .i64 56]), (w.heap.size + 1, 31, a4 A), (w.heap.size + 1 + 1, 23, #[.int .u8 0, .int .u8 0, .int .u8 0, .int .u8 0, .int .u8 0, .int .u8 0, .int .u8 0, .int .u8 0, .int .u8 0, .int .u8 0, .int .u8 0, .int .u8 0, .int .u8 0, .int .u8 0, .int .u8 0, .int .u8 0])]) M4) ?_
  try simp only [Act.put, List.setIfInBounds_toArray, List.set_cons_zero, List.set_cons_succ]
  refine tk (i := 6) (v := ?_) rfl (some 65) rfl (by kernel_rfl) (by kernel_rfl) (by kernel_rfl) (fun _ _ _ h => h) (Or.inl ⟨by kernel_rfl, ?_⟩) (Mem.init (l := [(w.heap.size, 26, #[.int .u8 (P 0), .int .u8 (P 1), .int .u8 (P 2), .int .u8 (P 3), .int .u8 (P 4), .int .u8 (P 5), .int .u8 (P 6), .int .u8 (P 7), .int .u8 (P 8), .int .u8 (P 9), .int .u8 (P 10), .int .u8 (P 11), .int .u8 (P 12), .int .u8 (P 13), .int .u8 (P 14), .int .u8 (P 15), .int .i64 56]), (w.heap.size + 1, 31, a4 A), (w.heap.size + 1 + 1, 23, #[.int .u8 0, .int .u8 0, .int .u8 0, .int .u8 0, .int .u8 0, .int .u8 0, .int .u8 0, .int .u8 0, .int .u8 0, .int .u8 0, .int .u8 0, .int .u8 0, .int .u8 0, .int .u8 0, .int .u8 0, .int .u8 0])]) M4) ?_
  rotate_left
  · intro w hS; go_simp; try with_reducible rfl
  try simp only [Act.put, List.setIfInBounds_toArray, List.set_cons_zero, List.set_cons_succ]
  refine tk (i := 7) rfl (some 66) rfl (by kernel_rfl) (by kernel_rfl) (by kernel_rfl) (fun _ _ _ h => h) (yi_cell 1 5 (.tmp 65) rfl rfl rfl _ rfl _ Try.underlying5 rfl) (Mem.init (l := [(w.heap.size, 26, #[.int .u8 (P 0), .int .u8 (P 1), .int .u8 (P 2), .int .u8 (P 3), .int .u8 (P 4), .int .u8 (P 5), .int .u8 (P 6), .int .u8 (P 7), .int .u8 (P 8), .int .u8 (P 9), .int .u8 (P 10), .int .u8 (P 11), .int .u8 (P 12), .int .u8 (P 13), .int .u8 (P 14), .int .u8 (P 15), .int .i64 56]), (w.heap.size + 1, 31, a4 A), (w.heap.size + 1 + 1, 23, #[.int .u8 0, .int .u8 0, .int .u8 0, .int .u8 0, .int .u8 0, .int .u8 0, .int .u8 0, .int .u8 0, .int .u8 0, .int .u8 0, .int .u8 0, .int .u8 0, .int .u8 0, .int .u8 0, .int .u8 0, .int .u8 0])]) M4) ?_
  try simp only [Act.put, List.setIfInBounds_toArray, List.set_cons_zero, List.set_cons_succ]
  refine tk (i := 8) (v := ?_) rfl (some 67) rfl (by kernel_rfl) (by kernel_rfl) (by kernel_rfl) (fun _ _ _ h => h) (Or.inl ⟨by kernel_rfl, ?_⟩) (Mem.init (l := [(w.heap.size, 26, #[.int .u8 (P 0), .int .u8 (P 1), .int .u8 (P 2), .int .u8 (P 3), .int .u8 (P 4), .int .u8 (P 5), .int .u8 (P 6), .int .u8 (P 7), .int .u8 (P 8), .int .u8 (P 9), .int .u8 (P 10), .int .u8 (P 11), .int .u8 (P 12), .int .u8 (P 13), .int .u8 (P 14), .int .u8 (P 15), .int .i64 56]), (w.heap.size + 1, 31, a4 A), (w.heap.size + 1 + 1, 23, #[.int .u8 0, .int .u8 0, .int .u8 0, .int .u8 0, .int .u8 0, .int .u8 0, .int .u8 0, .int .u8 0, .int .u8 0, .int .u8 0, .int .u8 0, .int .u8 0, .int .u8 0, .int .u8 0, .int .u8 0, .int .u8 0])]) M4) ?_
  rotate_left
  · intro w hS; go_simp; try with_reducible rfl
  try simp only [Act.put, List.setIfInBounds_toArray, List.set_cons_zero, List.set_cons_succ]
  refine wpAnyH_ready (rs := [9]) (by kernel_rfl) (by simp) ?_
  refine br_cell M4 3 rfl (by kernel_rfl) 5 (.tmp 67) _ rfl rfl rfl _ rfl _ rfl (by kernel_rfl) (by kernel_rfl) rfl rfl #[.int .u8 (P 0), .int .u8 (P 1), .int .u8 (P 2), .int .u8 (P 3), .int .u8 (P 4), .int .u8 (P 5), .int .u8 (P 6), .int .u8 (A 0), .int .u8 (P 8), .int .u8 (P 9), .int .u8 (P 10), .int .u8 (P 11), .int .u8 (P 12), .int .u8 (P 13), .int .u8 (P 14), .int .u8 (P 15)] (by kernel_rfl) _ rfl (fun w' M' => Mem.init (l := [(w.heap.size, 26, #[.int .u8 (P 0), .int .u8 (P 1), .int .u8 (P 2), .int .u8 (P 3), .int .u8 (P 4), .int .u8 (P 5), .int .u8 (P 6), .int .u8 (P 7), .int .u8 (P 8), .int .u8 (P 9), .int .u8 (P 10), .int .u8 (P 11), .int .u8 (P 12), .int .u8 (P 13), .int .u8 (P 14), .int .u8 (P 15), .int .i64 56]), (w.heap.size + 1, 31, a4 A), (w.heap.size + 1 + 1, 23, #[.int .u8 0, .int .u8 0, .int .u8 0, .int .u8 0, .int .u8 0, .int .u8 0, .int .u8 0, .int .u8 0, .int .u8 0, .int .u8 0, .int .u8 0, .int .u8 0, .int .u8 0, .int .u8 0, .int .u8 0, .int .u8 0])]) M') (fun s5 M5 => ?_) AllReadyH.nil
  clear M4
  try simp only [List.cons_append, List.nil_append, List.set_cons_zero, List.set_cons_succ] at M5
  try simp only [Act.put, List.setIfInBounds_toArray, List.set_cons_zero, List.set_cons_succ]
  refine tk (i := 10) (v := ?_) rfl (some 68) rfl (by kernel_rfl) (by kernel_rfl) (by kernel_rfl) (fun _ _ _ h => h) (Or.inl ⟨by kernel_rfl, ?_⟩) (Mem.init (l := [(w.heap.size, 26, #[.int .u8 (P 0), .int .u8 (P 1), .int .u8 (P 2), .int .u8 (P 3), .int .u8 (P 4), .int .u8 (P 5), .int .u8 (P 6), .int .u8 (P 7), .int .u8 (P 8), .int .u8 (P 9), .int .u8 (P 10), .int .u8 (P 11), .int .u8 (P 12), .int .u8 (P 13), .int .u8 (P 14), .int .u8 (P 15), .int .i64 56]), (w.heap.size + 1, 31, a4 A), (w.heap.size + 1 + 1, 23, #[.int .u8 0, .int .u8 0, .int .u8 0, .int .u8 0, .int .u8 0, .int .u8 0, .int .u8 0, .int .u8 0, .int .u8 0, .int .u8 0, .int .u8 0, .int .u8 0, .int .u8 0, .int .u8 0, .int .u8 0, .int .u8 0])]) M5) ?_
  rotate_left
  · intro w hS; go_simp; try with_reducible rfl
  try simp only [Act.put, List.setIfInBounds_toArray, List.set_cons_zero, List.set_cons_succ]
  refine wpAnyH_ready (rs := [11]) (by kernel_rfl) (by simp) ?_
  refine br_cell M5 3 rfl (by kernel_rfl) 5 (.tmp 68) _ rfl rfl rfl _ rfl _ rfl (by kernel_rfl) (by kernel_rfl) rfl rfl #[.int .u8 (P 0), .int .u8 (P 1), .int .u8 (P 2), .int .u8 (P 3), .int .u8 (P 4), .int .u8 (P 5), .int .u8 (P 6), .int .u8 (A 0), .int .u8 (P 8), .int .u8 (A 1), .int .u8 (P 10), .int .u8 (P 11), .int .u8 (P 12), .int .u8 (P 13), .int .u8 (P 14), .int .u8 (P 15)] (by kernel_rfl) _ rfl (fun w' M' => Mem.init (l := [(w.heap.size, 26, #[.int .u8 (P 0), .int .u8 (P 1), .int .u8 (P 2), .int .u8 (P 3), .int .u8 (P 4), .int .u8 (P 5), .int .u8 (P 6), .int .u8 (P 7), .int .u8 (P 8), .int .u8 (P 9), .int .u8 (P 10), .int .u8 (P 11), .int .u8 (P 12), .int .u8 (P 13), .int .u8 (P 14), .int .u8 (P 15), .int .i64 56]), (w.heap.size + 1, 31, a4 A), (w.heap.size + 1 + 1, 23, #[.int .u8 0, .int .u8 0, .int .u8 0, .int .u8 0, .int .u8 0, .int .u8 0, .int .u8 0, .int .u8 0, .int .u8 0, .int .u8 0, .int .u8 0, .int .u8 0, .int .u8 0, .int .u8 0, .int .u8 0, .int .u8 0])]) M') (fun s6 M6 => ?_) AllReadyH.nil
  clear M5
  try simp only [List.cons_append, List.nil_append, List.set_cons_zero, List.set_cons_succ] at M6
  try simp only [Act.put, List.setIfInBounds_toArray, List.set_cons_zero, List.set_cons_succ]
  refine tk (i := 12) (v := ?_) rfl (some 69) rfl (by kernel_rfl) (by kernel_rfl) (by kernel_rfl) (fun _ _ _ h => h) (Or.inl ⟨by kernel_rfl, ?_⟩) (Mem.init (l := [(w.heap.size, 26, #[.int .u8 (P 0), .int .u8 (P 1), .int .u8 (P 2), .int .u8 (P 3), .int .u8 (P 4), .int .u8 (P 5), .int .u8 (P 6), .int .u8 (P 7), .int .u8 (P 8), .int .u8 (P 9), .int .u8 (P 10), .int .u8 (P 11), .int .u8 (P 12), .int .u8 (P 13), .int .u8 (P 14), .int .u8 (P 15), .int .i64 56]), (w.heap.size + 1, 31, a4 A), (w.heap.size + 1 + 1, 23, #[.int .u8 0, .int .u8 0, .int .u8 0, .int .u8 0, .int .u8 0, .int .u8 0, .int .u8 0, .int .u8 0, .int .u8 0, .int .u8 0, .int .u8 0, .int .u8 0, .int .u8 0, .int .u8 0, .int .u8 0, .int .u8 0])]) M6) ?_
  rotate_left
  · intro w hS; go_simp; try with_reducible rfl
  try simp only [Act.put, List.setIfInBounds_toArray, List.set_cons_zero, List.set_cons_succ]
  refine wpAnyH_ready (rs := [13]) (by kernel_rfl) (by simp) ?_
  refine br_cell M6 3 rfl (by kernel_rfl) 5 (.tmp 69) _ rfl rfl rfl _ rfl _ rfl (by kernel_rfl) (by kernel_rfl) rfl rfl #[.int .u8 (P 0), .int .u8 (P 1), .int .u8 (P 2), .int .u8 (P 3), .int .u8 (P 4), .int .u8 (P 5), .int .u8 (P 6), .int .u8 (A 0), .int .u8 (P 8), .int .u8 (A 1), .int .u8 (A 2), .int .u8 (P 11), .int .u8 (P 12), .int .u8 (P 13), .int .u8 (P 14), .int .u8 (P 15)] (by kernel_rfl) _ rfl (fun w' M' => Mem.init (l := [(w.heap.size, 26, #[.int .u8 (P 0), .int .u8 (P 1), .int .u8 (P 2), .int .u8 (P 3), .int .u8 (P 4), .int .u8 (P 5), .int .u8 (P 6), .int .u8 (P 7), .int .u8 (P 8), .int .u8 (P 9), .int .u8 (P 10), .int .u8 (P 11), .int .u8 (P 12), .int .u8 (P 13), .int .u8 (P 14), .int .u8 (P 15), .int .i64 56]), (w.heap.size + 1, 31, a4 A), (w.heap.size + 1 + 1, 23, #[.int .u8 0, .int .u8 0, .int .u8 0, .int .u8 0, .int .u8 0, .int .u8 0, .int .u8 0, .int .u8 0, .int .u8 0, .int .u8 0, .int .u8 0, .int .u8 0, .int .u8 0, .int .u8 0, .int .u8 0, .int .u8 0])]) M') (fun s7 M7 => ?_) AllReadyH.nil
  clear M6
  try simp only [List.cons_append, List.nil_append, List.set_cons_zero, List.set_cons_succ] at M7
  try simp only [Act.put, List.setIfInBounds_toArray, List.set_cons_zero, List.set_cons_succ]
  refine tk (i := 14) (v := ?_) rfl (some 70) rfl (by kernel_rfl) (by kernel_rfl) (by kernel_rfl) (fun _ _ _ h => h) (Or.inl ⟨by kernel_rfl, ?_⟩) (Mem.init (l := [(w.heap.size, 26, #[.int .u8 (P 0), .int .u8 (P 1), .int .u8 (P 2), .int .u8 (P 3), .int .u8 (P 4), .int .u8 (P 5), .int .u8 (P 6), .int .u8 (P 7), .int .u8 (P 8), .int .u8 (P 9), .int .u8 (P 10), .int .u8 (P 11), .int .u8 (P 12), .int .u8 (P 13), .int .u8 (P 14), .int .u8 (P 15), .int .i64 56]), (w.heap.size + 1, 31, a4 A), (w.heap.size + 1 + 1, 23, #[.int .u8 0, .int .u8 0, .int .u8 0, .int .u8 0, .int .u8 0, .int .u8 0, .int .u8 0, .int .u8 0, .int .u8 0, .int .u8 0, .int .u8 0, .int .u8 0, .int .u8 0, .int .u8 0, .int .u8 0, .int .u8 0])]) M7) ?_
  rotate_left
  · intro w hS; go_simp; try with_reducible rfl
  try simp only [Act.put, List.setIfInBounds_toArray, List.set_cons_zero, List.set_cons_succ]
  refine wpAnyH_ready (rs := [15]) (by kernel_rfl) (by simp) ?_
  refine br_cell M7 3 rfl (by kernel_rfl) 5 (.tmp 70) _ rfl rfl rfl _ rfl _ rfl (by kernel_rfl) (by kernel_rfl) rfl rfl #[.int .u8 (P 0), .int .u8 (P 1), .int .u8 (P 2), .int .u8 (P 3), .int .u8 (P 4), .int .u8 (P 5), .int .u8 (P 6), .int .u8 (A 0), .int .u8 (P 8), .int .u8 (A 1), .int .u8 (A 2), .int .u8 (A 3), .int .u8 (P 12), .int .u8 (P 13), .int .u8 (P 14), .int .u8 (P 15)] (by kernel_rfl) _ rfl (fun w' M' => Mem.init (l := [(w.heap.size, 26, #[.int .u8 (P 0), .int .u8 (P 1), .int .u8 (P 2), .int .u8 (P 3), .int .u8 (P 4), .int .u8 (P 5), .int .u8 (P 6), .int .u8 (P 7), .int .u8 (P 8), .int .u8 (P 9), .int .u8 (P 10), .int .u8 (P 11), .int .u8 (P 12), .int .u8 (P 13), .int .u8 (P 14), .int .u8 (P 15), .int .i64 56]), (w.heap.size + 1, 31, a4 A), (w.heap.size + 1 + 1, 23, #[.int .u8 0, .int .u8 0, .int .u8 0, .int .u8 0, .int .u8 0, .int .u8 0, .int .u8 0, .int .u8 0, .int .u8 0, .int .u8 0, .int .u8 0, .int .u8 0, .int .u8 0, .int .u8 0, .int .u8 0, .int .u8 0])]) M') (fun s8 M8 => ?_) AllReadyH.nil
  clear M7
  try simp only [List.cons_append, List.nil_append, List.set_cons_zero, List.set_cons_succ] at M8
  try simp only [Act.put, List.setIfInBounds_toArray, List.set_cons_zero, List.set_cons_succ]
  refine wpAnyH_done (by kernel_rfl) ?_ _
  go_upto_region 17 with fail
  refine wp_region_lit ?_
  refine ly M8 (some 99) rfl (yi_row 3 23 (.tmp 6) rfl rfl rfl rfl Try.underlying23 rfl (by kernel_rfl)) ?_
  try simp only [Act.put, List.setIfInBounds_toArray, List.set_cons_zero, List.set_cons_succ]
  refine l_store M8 2 rfl 23 (.tmp 4) _ rfl rfl rfl rfl _ rfl (by kernel_rfl) (by rfl) (by kernel_rfl) _ rfl (fun s9 M9 => ?_)
  clear M8
  try simp only [List.cons_append, List.nil_append, List.set_cons_zero, List.set_cons_succ] at M9
  try simp only [Act.put, List.setIfInBounds_toArray, List.set_cons_zero, List.set_cons_succ]
  refine lv (by kernel_rfl) (some 5) rfl (v := ?_) ?_ ?_
  rotate_left
  · go_simp; try with_reducible rfl
  try simp only [Act.put, List.setIfInBounds_toArray, List.set_cons_zero, List.set_cons_succ]
  refine wpList_nil ?_
  go_wp2_with fail
  exact bodyPost_ret (v := .tuple #[.agg #[.int .u8 (P 0), .int .u8 (P 1), .int .u8 (P 2), .int .u8 (P 3), .int .u8 (P 4), .int .u8 (P 5), .int .u8 (P 6), .int .u8 (A 0), .int .u8 (P 8), .int .u8 (A 1), .int .u8 (A 2), .int .u8 (A 3), .int .u8 (P 12), .int .u8 (P 13), .int .u8 (P 14), .int .u8 (P 15)], .bool true]) (results_cell_tmp rfl (M9.row (i := 2) rfl) _ rfl _ rfl Try.underlying23 rfl (by kernel_rfl)) rfl ⟨rfl, M9.below⟩
set_option maxRecDepth 100000 in
set_option maxHeartbeats 4000000 in
theorem rextract_56 (P X : Nat → Int) (w : World) (h : InsideP P X 56) (h8 : X 8 = 0) : Calls Try.prog 17 #[net P 56, .agg (a16 X)] w fun e w' => e = .returned (.tuple #[.agg #[.int .u8 (X 7), .int .u8 (X 9), .int .u8 (X 10), .int .u8 (X 11)], .bool true]) ∧ Below w.heap.size w w' := by
  have c20 := fun w => rinside_any P X 56 w true (by simp [h])
  have t8 : (X 8 != 0) = false := by simp [h8]
  clear h h8
  go_enter Try.func17, Try.ntmps17
  go_upto_region 1 with fail
  refine hide_w (Mem.three w 26 23 31 #[.int .u8 (P 0), .int .u8 (P 1), .int .u8 (P 2), .int .u8 (P 3), .int .u8 (P 4), .int .u8 (P 5), .int .u8 (P 6), .int .u8 (P 7), .int .u8 (P 8), .int .u8 (P 9), .int .u8 (P 10), .int .u8 (P 11), .int .u8 (P 12), .int .u8 (P 13), .int .u8 (P 14), .int .u8 (P 15), .int .i64 56] (a16 X) #[.int .u8 0, .int .u8 0, .int .u8 0, .int .u8 0]) (fun w0 M0 => ?_)
  refine wp_region_lit ?_
  refine ly M0 (some 6) rfl (yi_row 0 26 (.tmp 2) rfl rfl rfl rfl Try.underlying26 rfl (by kernel_rfl)) ?_
  try simp only [Act.put, List.setIfInBounds_toArray, List.set_cons_zero, List.set_cons_succ]
  refine ly M0 (some 7) rfl (yi_row 1 23 (.tmp 3) rfl rfl rfl rfl Try.underlying23 rfl (by kernel_rfl)) ?_
  try simp only [Act.put, List.setIfInBounds_toArray, List.set_cons_zero, List.set_cons_succ]
  refine l_call rfl (some 8) rfl (c20 _) (by kernel_rfl) (fun s1 hb1 => ?_)
  have M1 := M0.call hb1
  clear hb1 M0
  try simp only [Act.put, List.setIfInBounds_toArray, List.set_cons_zero, List.set_cons_succ]
  refine lv (by kernel_rfl) (some 9) rfl (v := ?_) ?_ ?_
  rotate_left
  · go_simp; try with_reducible rfl
  try simp only [Act.put, List.setIfInBounds_toArray, List.set_cons_zero, List.set_cons_succ]
  refine lv (by kernel_rfl) (some 10) rfl (v := ?_) ?_ ?_
  rotate_left
  · go_simp; try with_reducible rfl
  try simp only [Act.put, List.setIfInBounds_toArray, List.set_cons_zero, List.set_cons_succ]
  refine lv (by kernel_rfl) (some 11) rfl (v := ?_) ?_ ?_
  rotate_left
  · go_simp; try with_reducible rfl
  try simp only [Act.put, List.setIfInBounds_toArray, List.set_cons_zero, List.set_cons_succ]
  refine ly M1 (some 12) rfl (yi_cell 1 5 (.tmp 11) rfl rfl rfl _ rfl _ Try.underlying5 rfl) ?_
  try simp only [Act.put, List.setIfInBounds_toArray, List.set_cons_zero, List.set_cons_succ]
  refine lv (by kernel_rfl) (some 13) rfl (v := ?_) ?_ ?_
  rotate_left
  · go_simp; try with_reducible rfl
  try simp only [Act.put, List.setIfInBounds_toArray, List.set_cons_zero, List.set_cons_succ]
  refine lv (by kernel_rfl) (some 14) rfl (v := ?_) ?_ ?_
  rotate_left
  · go_simp; try with_reducible rfl
  try simp only [Act.put, List.setIfInBounds_toArray, List.set_cons_zero, List.set_cons_succ]
  refine wpList_nil ?_
  go_upto_region 3 with fail
  refine wp_region_lit ?_
  refine lv (by kernel_rfl) (some 16) rfl (v := ?_) ?_ ?_
  rotate_left
  · go_simp; try with_reducible rfl
  try simp only [Act.put, List.setIfInBounds_toArray, List.set_cons_zero, List.set_cons_succ]
  refine ly M1 (some 17) rfl (yi_cell 0 3 (.tmp 16) rfl rfl rfl _ rfl _ Try.underlying3 rfl) ?_
  try simp only [Act.put, List.setIfInBounds_toArray, List.set_cons_zero, List.set_cons_succ]
  refine wpList_nil ?_
  go_upto_region 4 with fail
  refine wp_region_lit ?_
  refine lv (by kernel_rfl) (some 19) rfl (v := ?_) ?_ ?_
  rotate_left
  · go_simp; try with_reducible rfl
  try simp only [Act.put, List.setIfInBounds_toArray, List.set_cons_zero, List.set_cons_succ]
  refine lv (by kernel_rfl) (some 18) rfl (v := ?_) ?_ ?_
  rotate_left
  · go_simp; try with_reducible rfl
  try simp only [Act.put, List.setIfInBounds_toArray, List.set_cons_zero, List.set_cons_succ]
  refine wpList_nil ?_
  go_upto_region 6 with fail
  refine wp_region_lit ?_
  refine lv (by kernel_rfl) (some 30) rfl (v := ?_) ?_ ?_
  rotate_left
  · go_simp; try with_reducible rfl
  try simp only [Act.put, List.setIfInBounds_toArray, List.set_cons_zero, List.set_cons_succ]
  refine lv (by kernel_rfl) (some 29) rfl (v := ?_) ?_ ?_
  rotate_left
  · go_simp; try with_reducible rfl
  try simp only [Act.put, List.setIfInBounds_toArray, List.set_cons_zero, List.set_cons_succ]
  refine wpList_nil ?_
  go_upto_region 8 with fail
  refine wp_region_lit ?_
  refine lv (by kernel_rfl) (some 41) rfl (v := ?_) ?_ ?_
  rotate_left
  · go_simp; try with_reducible rfl
  try simp only [Act.put, List.setIfInBounds_toArray, List.set_cons_zero, List.set_cons_succ]
  refine lv (by kernel_rfl) (some 40) rfl (v := ?_) ?_ ?_
  rotate_left
  · go_simp; try with_reducible rfl
  try simp only [Act.put, List.setIfInBounds_toArray, List.set_cons_zero, List.set_cons_succ]
  refine wpList_nil ?_
  go_upto_region 10 with fail
  refine wp_region_lit ?_
  refine lv (by kernel_rfl) (some 52) rfl (v := ?_) ?_ ?_
  rotate_left
  · go_simp; try with_reducible rfl
  try simp only [Act.put, List.setIfInBounds_toArray, List.set_cons_zero, List.set_cons_succ]
  refine lv (by kernel_rfl) (some 51) rfl (v := ?_) ?_ ?_
  rotate_left
  · go_simp; try with_reducible rfl
  try simp only [Act.put, List.setIfInBounds_toArray, List.set_cons_zero, List.set_cons_succ]
  refine wpList_nil ?_
  go_upto_region 11 with fail
  refine wp_region_lit ?_
  refine lv (by kernel_rfl) (some 53) rfl (v := ?_) ?_ ?_
  rotate_left
  · go_simp; try with_reducible rfl
  try simp only [Act.put, List.setIfInBounds_toArray, List.set_cons_zero, List.set_cons_succ]
  refine ly M1 (some 54) rfl (yi_cell 1 5 (.tmp 53) rfl rfl rfl _ rfl _ Try.underlying5 rfl) ?_
  try simp only [Act.put, List.setIfInBounds_toArray, List.set_cons_zero, List.set_cons_succ]
  refine lv (by kernel_rfl) (some 55) rfl (v := ?_) ?_ ?_
  rotate_left
  · go_simp; try with_reducible rfl
  try simp only [Act.put, List.setIfInBounds_toArray, List.set_cons_zero, List.set_cons_succ]
  refine ly M1 (some 56) rfl (yi_cell 1 5 (.tmp 55) rfl rfl rfl _ rfl _ Try.underlying5 rfl) ?_
  try simp only [Act.put, List.setIfInBounds_toArray, List.set_cons_zero, List.set_cons_succ]
  refine lv (by kernel_rfl) (some 57) rfl (v := ?_) ?_ ?_
  rotate_left
  · go_simp; try with_reducible rfl
  try simp only [Act.put, List.setIfInBounds_toArray, List.set_cons_zero, List.set_cons_succ]
  refine ly M1 (some 58) rfl (yi_cell 1 5 (.tmp 57) rfl rfl rfl _ rfl _ Try.underlying5 rfl) ?_
  try simp only [Act.put, List.setIfInBounds_toArray, List.set_cons_zero, List.set_cons_succ]
  refine lv (by kernel_rfl) (some 59) rfl (v := ?_) ?_ ?_
  rotate_left
  · go_simp; try with_reducible rfl
  try simp only [Act.put, List.setIfInBounds_toArray, List.set_cons_zero, List.set_cons_succ]
  refine ly M1 (some 60) rfl (yi_cell 1 5 (.tmp 59) rfl rfl rfl _ rfl _ Try.underlying5 rfl) ?_
  try simp only [Act.put, List.setIfInBounds_toArray, List.set_cons_zero, List.set_cons_succ]
  refine lv (by kernel_rfl) (some 61) rfl (v := ?_) ?_ ?_
  rotate_left
  · go_simp; try with_reducible rfl
  try simp only [Act.put, List.setIfInBounds_toArray, List.set_cons_zero, List.set_cons_succ]
  refine l_store M1 2 rfl 31 (.tmp 4) _ rfl rfl rfl rfl _ rfl (by kernel_rfl) (by rfl) (by kernel_rfl) _ rfl (fun s2 M2 => ?_)
  clear M1
  try simp only [List.cons_append, List.nil_append, List.set_cons_zero, List.set_cons_succ] at M2
  try simp only [Act.put, List.setIfInBounds_toArray, List.set_cons_zero, List.set_cons_succ]
  refine lv (by kernel_rfl) (some 5) rfl (v := ?_) ?_ ?_
  rotate_left
  · go_simp; try with_reducible rfl
  try simp only [Act.put, List.setIfInBounds_toArray, List.set_cons_zero, List.set_cons_succ]
  refine wpList_nil ?_
  go_wp2_with fail
  exact bodyPost_ret (v := .tuple #[.agg #[.int .u8 (X 7), .int .u8 (X 9), .int .u8 (X 10), .int .u8 (X 11)], .bool true]) (results_cell_tmp rfl (M2.row (i := 2) rfl) _ rfl _ rfl Try.underlying31 rfl (by kernel_rfl)) rfl ⟨rfl, M2.below⟩
set_option maxRecDepth 100000 in
set_option maxHeartbeats 4000000 in
theorem rembed_64 (P A : Nat → Int) (w : World) (h : RightP P 64) : Calls Try.prog 16 #[net P 64, .agg (a4 A)] w fun e w' => e = .returned (.tuple #[.agg #[.int .u8 (P 0), .int .u8 (P 1), .int .u8 (P 2), .int .u8 (P 3), .int .u8 (P 4), .int .u8 (P 5), .int .u8 (P 6), .int .u8 (P 7), .int .u8 (P 8), .int .u8 (A 0), .int .u8 (A 1), .int .u8 (A 2), .int .u8 (A 3), .int .u8 (P 13), .int .u8 (P 14), .int .u8 (P 15)], .bool true]) ∧ Below w.heap.size w w' := by
  have c18 := fun w => rright_t P 64 w h
  clear h
  go_enter Try.func16, Try.ntmps16
  go_upto_region 1 with fail
  refine hide_w (Mem.three w 26 31 23 #[.int .u8 (P 0), .int .u8 (P 1), .int .u8 (P 2), .int .u8 (P 3), .int .u8 (P 4), .int .u8 (P 5), .int .u8 (P 6), .int .u8 (P 7), .int .u8 (P 8), .int .u8 (P 9), .int .u8 (P 10), .int .u8 (P 11), .int .u8 (P 12), .int .u8 (P 13), .int .u8 (P 14), .int .u8 (P 15), .int .i64 64] (a4 A) #[.int .u8 0, .int .u8 0, .int .u8 0, .int .u8 0, .int .u8 0, .int .u8 0, .int .u8 0, .int .u8 0, .int .u8 0, .int .u8 0, .int .u8 0, .int .u8 0, .int .u8 0, .int .u8 0, .int .u8 0, .int .u8 0]) (fun w0 M0 => ?_)
  refine wp_region_lit ?_
  refine lv (by kernel_rfl) (some 7) rfl (v := ?_) ?_ ?_
  rotate_left
  · go_simp; try with_reducible rfl
  try simp only [Act.put, List.setIfInBounds_toArray, List.set_cons_zero, List.set_cons_succ]
  refine ly M0 (some 8) rfl (yi_part 0 23 (.tmp 7) rfl rfl rfl 0 rfl (a16 P) Try.underlying23 rfl (by kernel_rfl) (by kernel_rfl)) ?_
  try simp only [Act.put, List.setIfInBounds_toArray, List.set_cons_zero, List.set_cons_succ]
  refine l_alloc rfl (some 6) rfl #[.int .u8 0, .int .u8 0, .int .u8 0, .int .u8 0, .int .u8 0, .int .u8 0, .int .u8 0, .int .u8 0, .int .u8 0, .int .u8 0, .int .u8 0, .int .u8 0, .int .u8 0, .int .u8 0, .int .u8 0, .int .u8 0] 23 (by kernel_rfl) ?_
  have M1 := M0.new rfl 23 #[.int .u8 0, .int .u8 0, .int .u8 0, .int .u8 0, .int .u8 0, .int .u8 0, .int .u8 0, .int .u8 0, .int .u8 0, .int .u8 0, .int .u8 0, .int .u8 0, .int .u8 0, .int .u8 0, .int .u8 0, .int .u8 0]
  clear M0
  try simp only [List.cons_append, List.nil_append, List.set_cons_zero, List.set_cons_succ] at M1
  try simp only [Act.put, List.setIfInBounds_toArray, List.set_cons_zero, List.set_cons_succ]
  refine l_store M1 3 rfl 23 (.tmp 6) _ rfl rfl rfl rfl _ rfl (by kernel_rfl) (by rfl) (by kernel_rfl) _ rfl (fun s2 M2 => ?_)
  clear M1
  try simp only [List.cons_append, List.nil_append, List.set_cons_zero, List.set_cons_succ] at M2
  try simp only [Act.put, List.setIfInBounds_toArray, List.set_cons_zero, List.set_cons_succ]
  refine wpList_nil ?_
  go_upto_region 2 with fail
  refine wp_region_lit ?_
  refine ly M2 (some 9) rfl (yi_row 0 26 (.tmp 2) rfl rfl rfl rfl Try.underlying26 rfl (by kernel_rfl)) ?_
  try simp only [Act.put, List.setIfInBounds_toArray, List.set_cons_zero, List.set_cons_succ]
  refine l_call rfl (some 10) rfl (c18 _) (by kernel_rfl) (fun s3 hb3 => ?_)
  have M3 := M2.call hb3
  clear hb3 M2
  try simp only [Act.put, List.setIfInBounds_toArray, List.set_cons_zero, List.set_cons_succ]
  refine lv (by kernel_rfl) (some 11) rfl (v := ?_) ?_ ?_
  rotate_left
  · go_simp; try with_reducible rfl
  try simp only [Act.put, List.setIfInBounds_toArray, List.set_cons_zero, List.set_cons_succ]
  refine wpList_nil ?_
  go_upto_region 4 with fail
  refine wp_region_lit ?_
  refine lv (by kernel_rfl) (some 13) rfl (v := ?_) ?_ ?_
  rotate_left
  · go_simp; try with_reducible rfl
  try simp only [Act.put, List.setIfInBounds_toArray, List.set_cons_zero, List.set_cons_succ]
  refine ly M3 (some 14) rfl (yi_cell 0 3 (.tmp 13) rfl rfl rfl _ rfl _ Try.underlying3 rfl) ?_
  try simp only [Act.put, List.setIfInBounds_toArray, List.set_cons_zero, List.set_cons_succ]
  refine wpList_nil ?_
  go_upto_region 5 with fail
  refine wp_region_lit ?_
  refine lv (by kernel_rfl) (some 16) rfl (v := ?_) ?_ ?_
  rotate_left
  · go_simp; try with_reducible rfl
  try simp only [Act.put, List.setIfInBounds_toArray, List.set_cons_zero, List.set_cons_succ]
  refine lv (by kernel_rfl) (some 15) rfl (v := ?_) ?_ ?_
  rotate_left
  · go_simp; try with_reducible rfl
  try simp only [Act.put, List.setIfInBounds_toArray, List.set_cons_zero, List.set_cons_succ]
  refine wpList_nil ?_
  go_upto_region 7 with fail
  refine wp_region_lit ?_
  refine lv (by kernel_rfl) (some 30) rfl (v := ?_) ?_ ?_
  rotate_left
  · go_simp; try with_reducible rfl
  try simp only [Act.put, List.setIfInBounds_toArray, List.set_cons_zero, List.set_cons_succ]
  refine lv (by kernel_rfl) (some 29) rfl (v := ?_) ?_ ?_
  rotate_left
  · go_simp; try with_reducible rfl
  try simp only [Act.put, List.setIfInBounds_toArray, List.set_cons_zero, List.set_cons_succ]
  refine wpList_nil ?_
  go_upto_region 9 with fail
  refine wp_region_lit ?_
  refine lv (by kernel_rfl) (some 44) rfl (v := ?_) ?_ ?_
  rotate_left
  · go_simp; try with_reducible rfl
  try simp only [Act.put, List.setIfInBounds_toArray, List.set_cons_zero, List.set_cons_succ]
  refine lv (by kernel_rfl) (some 43) rfl (v := ?_) ?_ ?_
  rotate_left
  · go_simp; try with_reducible rfl
  try simp only [Act.put, List.setIfInBounds_toArray, List.set_cons_zero, List.set_cons_succ]
  refine wpList_nil ?_
  go_upto_region 11 with fail
  refine wp_region_lit ?_
  refine lv (by kernel_rfl) (some 58) rfl (v := ?_) ?_ ?_
  rotate_left
  · go_simp; try with_reducible rfl
  try simp only [Act.put, List.setIfInBounds_toArray, List.set_cons_zero, List.set_cons_succ]
  refine lv (by kernel_rfl) (some 57) rfl (v := ?_) ?_ ?_
  rotate_left
  · go_simp; try with_reducible rfl
  try simp only [Act.put, List.setIfInBounds_toArray, List.set_cons_zero, List.set_cons_succ]
  refine wpList_nil ?_
  go_upto_region 13 with fail
  refine wp_region_lit ?_
  refine lv (by kernel_rfl) (some 72) rfl (v := ?_) ?_ ?_
  rotate_left
  · go_simp; try with_reducible rfl
  try simp only [Act.put, List.setIfInBounds_toArray, List.set_cons_zero, List.set_cons_succ]
  refine lv (by kernel_rfl) (some 71) rfl (v := ?_) ?_ ?_
  rotate_left
  · go_simp; try with_reducible rfl
  try simp only [Act.put, List.setIfInBounds_toArray, List.set_cons_zero, List.set_cons_succ]
  refine wpList_nil ?_
  go_upto_region 14 with fail
  refine wp_region_held_drew (S := fun w' => Mem w w' [(w.heap.size, 26, #[.int .u8 (P 0), .int .u8 (P 1), .int .u8 (P 2), .int .u8 (P 3), .int .u8 (P 4), .int .u8 (P 5), .int .u8 (P 6), .int .u8 (P 7), .int .u8 (P 8), .int .u8 (P 9), .int .u8 (P 10), .int .u8 (P 11), .int .u8 (P 12), .int .u8 (P 13), .int .u8 (P 14), .int .u8 (P 15), .int .i64 64]), (w.heap.size + 1, 31, a4 A), (w.heap.size + 1 + 1, 23, #[.int .u8 0, .int .u8 0, .int .u8 0, .int .u8 0, .int .u8 0, .int .u8 0, .int .u8 0, .int .u8 0, .int .u8 0, .int .u8 0, .int .u8 0, .int .u8 0, .int .u8 0, .int .u8 0, .int .u8 0, .int .u8 0])]) (by kernel_rfl) (Mem.init (l := [(w.heap.size, 26, #[.int .u8 (P 0), .int .u8 (P 1), .int .u8 (P 2), .int .u8 (P 3), .int .u8 (P 4), .int .u8 (P 5), .int .u8 (P 6), .int .u8 (P 7), .int .u8 (P 8), .int .u8 (P 9), .int .u8 (P 10), .int .u8 (P 11), .int .u8 (P 12), .int .u8 (P 13), .int .u8 (P 14), .int .u8 (P 15), .int .i64 64]), (w.heap.size + 1, 31, a4 A), (w.heap.size + 1 + 1, 23, #[.int .u8 0, .int .u8 0, .int .u8 0, .int .u8 0, .int .u8 0, .int .u8 0, .int .u8 0, .int .u8 0, .int .u8 0, .int .u8 0, .int .u8 0, .int .u8 0, .int .u8 0, .int .u8 0, .int .u8 0, .int .u8 0])]) M3.drew) (fun _ => ?_)
  have M4 := M3.drew
  refine tk (i := 0) (v := ?_) rfl (some 73) rfl (by kernel_rfl) (by kernel_rfl) (by kernel_rfl) (fun _ _ _ h => h) (Or.inl ⟨by kernel_rfl, ?_⟩) (Mem.init (l := [(w.heap.size, 26, #[.int .u8 (P 0), .int .u8 (P 1), .int .u8 (P 2), .int .u8 (P 3), .int .u8 (P 4), .int .u8 (P 5), .int .u8 (P 6), .int .u8 (P 7), .int .u8 (P 8), .int .u8 (P 9), .int .u8 (P 10), .int .u8 (P 11), .int .u8 (P 12), .int .u8 (P 13), .int .u8 (P 14), .int .u8 (P 15), .int .i64 64]), (w.heap.size + 1, 31, a4 A), (w.heap.size + 1 + 1, 23, #[.int .u8 0, .int .u8 0, .int .u8 0, .int .u8 0, .int .u8 0, .int .u8 0, .int .u8 0, .int .u8 0, .int .u8 0, .int .u8 0, .int .u8 0, .int .u8 0, .int .u8 0, .int .u8 0, .int .u8 0, .int .u8 0])]) M4) ?_
  rotate_left
  · intro w hS; go_simp; try with_reducible rfl
  try simp only [Act.put, List.setIfInBounds_toArray, List.set_cons_zero, List.set_cons_succ]
  refine tk (i := 1) rfl (some 74) rfl (by kernel_rfl) (by kernel_rfl) (by kernel_rfl) (fun _ _ _ h => h) (yi_cell 1 5 (.tmp 73) rfl rfl rfl _ rfl _ Try.underlying5 rfl) (Mem.init (l := [(w.heap.size, 26, #[.int .u8 (P 0), .int .u8 (P 1), .int .u8 (P 2), .int .u8 (P 3), .int .u8 (P 4), .int .u8 (P 5), .int .u8 (P 6), .int .u8 (P 7), .int .u8 (P 8), .int .u8 (P 9), .int .u8 (P 10), .int .u8 (P 11), .int .u8 (P 12), .int .u8 (P 13), .int .u8 (P 14), .int .u8 (P 15), .int .i64 64]), (w.heap.size + 1, 31, a4 A), (w.heap.size + 1 + 1, 23, #[.int .u8 0, .int .u8 0, .int .u8 0, .int .u8 0, .int .u8 0, .int .u8 0, .int .u8 0, .int .u8 0, .int .u8 0, .int .u8 0, .int .u8 0, .int .u8 0, .int .u8 0, .int .u8 0, .int .u8 0, .int .u8 0])]) M4) ?_
  try simp only [Act.put, List.setIfInBounds_toArray, List.set_cons_zero, List.set_cons_succ]
  refine tk (i := 2) (v := ?_) rfl (some 75) rfl (by kernel_rfl) (by kernel_rfl) (by kernel_rfl) (fun _ _ _ h => h) (Or.inl ⟨by kernel_rfl, ?_⟩) (Mem.init (l := [(w.heap.size, 26, #[.int .u8 (P 0), .int .u8 (P 1), .int .u8 (P 2), .int .u8 (P 3), .int .u8 (P 4), .int .u8 (P 5), .int .u8 (P 6), .int .u8 (P 7), .int .u8 (P 8), .int .u8 (P 9), .int .u8 (P 10), .int .u8 (P 11), .int .u8 (P 12), .int .u8 (P 13), .int .u8 (P 14), .int .u8 (P 15), .int .i64 64]), (w.heap.size + 1, 31, a4 A), (w.heap.size + 1 + 1, 23, #[.int .u8 0, .int .u8 0, .int .u8 0, .int .u8 0, .int .u8 0, .int .u8 0, .int .u8 0, .int .u8 0, .int .u8 0, .int .u8 0, .int .u8 0, .int .u8 0, .int .u8 0, .int .u8 0, .int .u8 0, .int .u8 0])]) M4) ?_
  rotate_left
  · intro w hS; go_simp; try with_reducible rfl
  try simp only [Act.put, List.setIfInBounds_toArray, List.set_cons_zero, List.set_cons_succ]
  refine tk (i := 3) rfl (some 76) rfl (by kernel_rfl) (by kernel_rfl) (by kernel_rfl) (fun _ _ _ h => h) (yi_cell 1 5 (.tmp 75) rfl rfl rfl _ rfl _ Try.underlying5 rfl) (Mem.init (l := [(w.heap.size, 26, #[.int .u8 (P 0), .int .u8 (P 1), .int .u8 (P 2), .int .u8 (P 3), .int .u8 (P 4), .int .u8 (P 5), .int .u8 (P 6), .int .u8 (P 7), .int .u8 (P 8), .int .u8 (P 9), .int .u8 (P 10), .int .u8 (P 11), .int .u8 (P 12), .int .u8 (P 13), .int .u8 (P 14), .int .u8 (P 15), .int .i64 64]), (w.heap.size + 1, 31, a4 A), (w.heap.size + 1 + 1, 23, #[.int .u8 0, .int .u8 0, .int .u8 0, .int .u8 0, .int .u8 0, .int .u8 0, .int .u8 0, .int .u8 0, .int .u8 0, .int .u8 0, .int .u8 0, .int .u8 0, .int .u8 0, .int .u8 0, .int .u8 0, .int .u8 0])]) M4) ?_
  try simp only [Act.put, List.setIfInBounds_toArray, List.set_cons_zero, List.set_cons_succ]
  refine tk (i := 4) (v := ?_) rfl (some 77) rfl (by kernel_rfl) (by kernel_rfl) (by kernel_rfl) (fun _ _ _ h => h) (Or.inl ⟨by kernel_rfl, ?_⟩) (Mem.init (l := [(w.heap.size, 26, #[.int .u8 (P 0), .int .u8 (P 1), .int .u8 (P 2), .int .u8 (P 3), .int .u8 (P 4), .int .u8 (P 5), .int .u8 (P 6), .int .u8 (P 7), .int .u8 (P 8), .int .u8 (P 9), .int .u8 (P 10), .int .u8 (P 11), .int .u8 (P 12), .int .u8 (P 13), .int .u8 (P 14), .int .u8 (P 15), .int .i64 64]), (w.heap.size + 1, 31, a4 A), (w.heap.size + 1 + 1, 23, #[.int .u8 0, .int .u8 0, .int .u8 0, .int .u8 0, .int .u8 0, .int .u8 0, .int .u8 0, .int .u8 0, .int .u8 0, .int .u8 0, .int .u8 0, .int .u8 0, .int .u8 0, .int .u8 0, .int .u8 0, .int .u8 0])]) M4) ?_
  rotate_left
  · intro w hS; go_simp; try with_reducible rfl
  try simp only [Act.put, List.setIfInBounds_toArray, List.set_cons_zero, List.set_cons_succ]
  refine tk (i := 5) rfl (some 78) rfl (by kernel_rfl) (by kernel_rfl) (by kernel_rfl) (fun _ _ _ h => h) (yi_cell 1 5 (.tmp 77) rfl rfl rfl _ rfl _ Try.underlying5 rfl) (Mem.init (l := [(w.heap.size, 26, #[.int .u8 (P 0), .int .u8 (P 1), .int .u8 (P 2), .int .u8 (P 3), .int .u8 (P 4), .int .u8 (P 5), .int .u8 (P 6), .int .u8 (P 7), .int .u8 (P 8), .int .u8 (P 9), .int .u8 (P 10), .int .u8 (P 11), .int .u8 (P 12), .int .u8 (P 13), .int .u8 (P 14), .int .u8 (P 15), .int .i64 64]), (w.heap.size + 1, 31, a4 A), (w.heap.size + 1 + 1, 23, #[.int .u8 0, .int .u8 0, .int .u8 0, .int .u8 0, .int .u8 0, .int .u8 0, .int .u8 0, .int .u8 0, .int .u8 0, .int .u8 0, .int .u8 0, .int .u8 0, .int .u8 0, .int .u8 0, .int .u8 0, .int .u8 0])]) M4) ?_
  try simp only [Act.put, List.setIfInBounds_toArray, List.set_cons_zero, List.set_cons_succ]
  refine tk (i := 6) (v := ?_) rfl (some 79) rfl (by kernel_rfl) (by kernel_rfl) (by kernel_rfl) (fun _ _ _ h => h) (Or.inl ⟨by kernel_rfl, ?_⟩) (Mem.init (l := [(w.heap.size, 26, #[.int .u8 (P 0), .int .u8 (P 1), .int .u8 (P 2), .int .u8 (P 3), .int .u8 (P 4), .int .u8 (P 5), .int .u8 (P 6), .int .u8 (P 7), .int .u8 (P 8), .int .u8 (P 9), .int .u8 (P 10), .int .u8 (P 11), .int .u8 (P 12), .int .u8 (P 13), .int .u8 (P 14), .int .u8 (P 15), .int .i64 64]), (w.heap.size + 1, 31, a4 A), (w.heap.size + 1 + 1, 23, #[.int .u8 0, .int .u8 0, .int .u8 0, .int .u8 0, .int .u8 0, .int .u8 0, .int .u8 0, .int .u8 0, .int .u8 0, .int .u8 0, .int .u8 0, .int .u8 0, .int .u8 0, .int .u8 0, .int .u8 0, .int .u8 0])]) M4) ?_
  rotate_left
  · intro w hS; go_simp; try with_reducible rfl
  try simp only [Act.put, List.setIfInBounds_toArray, List.set_cons_zero, List.set_cons_succ]
  refine tk (i := 7) rfl (some 80) rfl (by kernel_rfl) (by kernel_rfl) (by kernel_rfl) (fun _ _ _ h => h) (yi_cell 1 5 (.tmp 79) rfl rfl rfl _ rfl _ Try.underlying5 rfl) (Mem.init (l := [(w.heap.size, 26, #[.int .u8 (P 0), .int .u8 (P 1), .int .u8 (P 2), .int .u8 (P 3), .int .u8 (P 4), .int .u8 (P 5), .int .u8 (P 6), .int .u8 (P 7), .int .u8 (P 8), .int .u8 (P 9), .int .u8 (P 10), .int .u8 (P 11), .int .u8 (P 12), .int .u8 (P 13), .int .u8 (P 14), .int .u8 (P 15), .int .i64 64]), (w.heap.size + 1, 31, a4 A), (w.heap.size + 1 + 1, 23, #[.int .u8 0, .int .u8 0, .int .u8 0, .int .u8 0, .int .u8 0, .int .u8 0, .int .u8 0, .int .u8 0, .int .u8 0, .int .u8 0, .int .u8 0, .int .u8 0, .int .u8 0, .int .u8 0, .int .u8 0, .int .u8 0])]) M4) ?_
  try simp only [Act.put, List.setIfInBounds_toArray, List.set_cons_zero, List.set_cons_succ]
  refine tk (i := 8) (v := ?_) rfl (some 81) rfl (by kernel_rfl) (by kernel_rfl) (by kernel_rfl) (fun _ _ _ h => h) (Or.inl ⟨by kernel_rfl, ?_⟩) (Mem.init (l := [(w.heap.size, 26, #[.int .u8 (P 0), .int .u8 (P 1), .int .u8 (P 2), .int .u8 (P 3), .int .u8 (P 4), .int .u8 (P 5), .int .u8 (P 6), .int .u8 (P 7), .int .u8 (P 8), .int .u8 (P 9), .int .u8 (P 10), .int .u8 (P 11), .int .u8 (P 12), .int .u8 (P 13), .int .u8 (P 14), .int .u8 (P 15), .int .i64 64]), (w.heap.size + 1, 31, a4 A), (w.heap.size + 1 + 1, 23, #[.int .u8 0, .int .u8 0, .int .u8 0, .int .u8 0, .int .u8 0, .int .u8 0, .int .u8 0, .int .u8 0, .int .u8 0, .int .u8 0, .int .u8 0, .int .u8 0, .int .u8 0, .int .u8 0, .int .u8 0, .int .u8 0])]) M4) ?_
  rotate_left
  · intro w hS; go_simp; try with_reducible rfl
  try simp only [Act.put, List.setIfInBounds_toArray, List.set_cons_zero, List.set_cons_succ]
  refine wpAnyH_ready (rs := [9]) (by kernel_rfl) (by simp) ?_
  refine br_cell M4 3 rfl (by kernel_rfl) 5 (.tmp 81) _ rfl rfl rfl _ rfl _ rfl (by kernel_rfl) (by kernel_rfl) rfl rfl #[.int .u8 (P 0), .int .u8 (P 1), .int .u8 (P 2), .int .u8 (P 3), .int .u8 (P 4), .int .u8 (P 5), .int .u8 (P 6), .int .u8 (P 7), .int .u8 (P 8), .int .u8 (A 0), .int .u8 (P 10), .int .u8 (P 11), .int .u8 (P 12), .int .u8 (P 13), .int .u8 (P 14), .int .u8 (P 15)] (by kernel_rfl) _ rfl (fun w' M' => Mem.init (l := [(w.heap.size, 26, #[.int .u8 (P 0), .int .u8 (P 1), .int .u8 (P 2), .int .u8 (P 3), .int .u8 (P 4), .int .u8 (P 5), .int .u8 (P 6), .int .u8 (P 7), .int .u8 (P 8), .int .u8 (P 9), .int .u8 (P 10), .int .u8 (P 11), .int .u8 (P 12), .int .u8 (P 13), .int .u8 (P 14), .int .u8 (P 15), .int .i64 64]), (w.heap.size + 1, 31, a4 A), (w.heap.size + 1 + 1, 23, #[.int .u8 0, .int .u8 0, .int .u8 0, .int .u8 0, .int .u8 0, .int .u8 0, .int .u8 0, .int .u8 0, .int .u8 0, .int .u8 0, .int .u8 0, .int .u8 0, .int .u8 0, .int .u8 0, .int .u8 0, .int .u8 0])]) M') (fun s5 M5 => ?_) AllReadyH.nil
  clear M4
  try simp only [List.cons_append, List.nil_append, List.set_cons_zero, List.set_cons_succ] at M5
  try simp only [Act.put, List.setIfInBounds_toArray, List.set_cons_zero, List.set_cons_succ]
  refine tk (i := 10) (v := ?_) rfl (some 82) rfl (by kernel_rfl) (by kernel_rfl) (by kernel_rfl) (fun _ _ _ h => h) (Or.inl ⟨by kernel_rfl, ?_⟩) (Mem.init (l := [(w.heap.size, 26, #[.int .u8 (P 0), .int .u8 (P 1), .int .u8 (P 2), .int .u8 (P 3), .int .u8 (P 4), .int .u8 (P 5), .int .u8 (P 6), .int .u8 (P 7), .int .u8 (P 8), .int .u8 (P 9), .int .u8 (P 10), .int .u8 (P 11), .int .u8 (P 12), .int .u8 (P 13), .int .u8 (P 14), .int .u8 (P 15), .int .i64 64]), (w.heap.size + 1, 31, a4 A), (w.heap.size + 1 + 1, 23, #[.int .u8 0, .int .u8 0, .int .u8 0, .int .u8 0, .int .u8 0, .int .u8 0, .int .u8 0, .int .u8 0, .int .u8 0, .int .u8 0, .int .u8 0, .int .u8 0, .int .u8 0, .int .u8 0, .int .u8 0, .int .u8 0])]) M5) ?_
  rotate_left
  · intro w hS; go_simp; try with_reducible rfl
  try simp only [Act.put, List.setIfInBounds_toArray, List.set_cons_zero, List.set_cons_succ]
  refine wpAnyH_ready (rs := [11]) (by kernel_rfl) (by simp) ?_
  refine br_cell M5 3 rfl (by kernel_rfl) 5 (.tmp 82) _ rfl rfl rfl _ rfl _ rfl (by kernel_rfl) (by kernel_rfl) rfl rfl #[.int .u8 (P 0), .int .u8 (P 1), .int .u8 (P 2), .int .u8 (P 3), .int .u8 (P 4), .int .u8 (P 5), .int .u8 (P 6), .int .u8 (P 7), .int .u8 (P 8), .int .u8 (A 0), .int .u8 (A 1), .int .u8 (P 11), .int .u8 (P 12), .int .u8 (P 13), .int .u8 (P 14), .int .u8 (P 15)] (by kernel_rfl) _ rfl (fun w' M' => Mem.init (l := [(w.heap.size, 26, #[.int .u8 (P 0), .int .u8 (P 1), .int .u8 (P 2), .int .u8 (P 3), .int .u8 (P 4), .int .u8 (P 5), .int .u8 (P 6), .int .u8 (P 7), .int .u8 (P 8), .int .u8 (P 9), .int .u8 (P 10), .int .u8 (P 11), .int .u8 (P 12), .int .u8 (P 13), .int .u8 (P 14), .int .u8 (P 15), .int .i64 64]), (w.heap.size + 1, 31, a4 A), (w.heap.size + 1 + 1, 23, #[.int .u8 0, .int .u8 0, .int .u8 0, .int .u8 0, .int .u8 0, .int .u8 0, .int .u8 0, .int .u8 0, .int .u8 0, .int .u8 0, .int .u8 0, .int .u8 0, .int .u8 0, .int .u8 0, .int .u8 0, .int .u8 0])]) M') (fun s6 M6 => ?_) AllReadyH.nil
  clear M5
  try simp only [List.cons_append, List.nil_append, List.set_cons_zero, List.set_cons_succ] at M6
  try simp only [Act.put, List.setIfInBounds_toArray, List.set_cons_zero, List.set_cons_succ]
  refine tk (i := 12) (v := ?_) rfl (some 83) rfl (by kernel_rfl) (by kernel_rfl) (by kernel_rfl) (fun _ _ _ h => h) (Or.inl ⟨by kernel_rfl, ?_⟩) (Mem.init (l := [(w.heap.size, 26, #[.int .u8 (P 0), .int .u8 (P 1), .int .u8 (P 2), .int .u8 (P 3), .int .u8 (P 4), .int .u8 (P 5), .int .u8 (P 6), .int .u8 (P 7), .int .u8 (P 8), .int .u8 (P 9), .int .u8 (P 10), .int .u8 (P 11), .int .u8 (P 12), .int .u8 (P 13), .int .u8 (P 14), .int .u8 (P 15), .int .i64 64]), (w.heap.size + 1, 31, a4 A), (w.heap.size + 1 + 1, 23, #[.int .u8 0, .int .u8 0, .int .u8 0, .int .u8 0, .int .u8 0, .int .u8 0, .int .u8 0, .int .u8 0, .int .u8 0, .int .u8 0, .int .u8 0, .int .u8 0, .int .u8 0, .int .u8 0, .int .u8 0, .int .u8 0])]) M6) ?_
  rotate_left
  · intro w hS; go_simp; try with_reducible rfl
  try simp only [Act.put, List.setIfInBounds_toArray, List.set_cons_zero, List.set_cons_succ]
  refine wpAnyH_ready (rs := [13]) (by kernel_rfl) (by simp) ?_
  refine br_cell M6 3 rfl (by kernel_rfl) 5 (.tmp 83) _ rfl rfl rfl _ rfl _ rfl (by kernel_rfl) (by kernel_rfl) rfl rfl #[.int .u8 (P 0), .int .u8 (P 1), .int .u8 (P 2), .int .u8 (P 3), .int .u8 (P 4), .int .u8 (P 5), .int .u8 (P 6), .int .u8 (P 7), .int .u8 (P 8), .int .u8 (A 0), .int .u8 (A 1), .int .u8 (A 2), .int .u8 (P 12), .int .u8 (P 13), .int .u8 (P 14), .int .u8 (P 15)] (by kernel_rfl) _ rfl (fun w' M' => Mem.init (l := [(w.heap.size, 26, #[.int .u8 (P 0), .int .u8 (P 1), .int .u8 (P 2), .int .u8 (P 3), .int .u8 (P 4), .int .u8 (P 5), .int .u8 (P 6), .int .u8 (P 7), .int .u8 (P 8), .int .u8 (P 9), .int .u8 (P 10), .int .u8 (P 11), .int .u8 (P 12), .int .u8 (P 13), .int .u8 (P 14), .int .u8 (P 15), .int .i64 64]), (w.heap.size + 1, 31, a4 A), (w.heap.size + 1 + 1, 23, #[.int .u8 0, .int .u8 0, .int .u8 0, .int .u8 0, .int .u8 0, .int .u8 0, .int .u8 0, .int .u8 0, .int .u8 0, .int .u8 0, .int .u8 0, .int .u8 0, .int .u8 0, .int .u8 0, .int .u8 0, .int .u8 0])]) M') (fun s7 M7 => ?_) AllReadyH.nil
  clear M6
  try simp only [List.cons_append, List.nil_append, List.set_cons_zero, List.set_cons_succ] at M7
  try simp only [Act.put, List.setIfInBounds_toArray, List.set_cons_zero, List.set_cons_succ]
  refine tk (i := 14) (v := ?_) rfl (some 84) rfl (by kernel_rfl) (by kernel_rfl) (by kernel_rfl) (fun _ _ _ h => h) (Or.inl ⟨by kernel_rfl, ?_⟩) (Mem.init (l := [(w.heap.size, 26, #[.int .u8 (P 0), .int .u8 (P 1), .int .u8 (P 2), .int .u8 (P 3), .int .u8 (P 4), .int .u8 (P 5), .int .u8 (P 6), .int .u8 (P 7), .int .u8 (P 8), .int .u8 (P 9), .int .u8 (P 10), .int .u8 (P 11), .int .u8 (P 12), .int .u8 (P 13), .int .u8 (P 14), .int .u8 (P 15), .int .i64 64]), (w.heap.size + 1, 31, a4 A), (w.heap.size + 1 + 1, 23, #[.int .u8 0, .int .u8 0, .int .u8 0, .int .u8 0, .int .u8 0, .int .u8 0, .int .u8 0, .int .u8 0, .int .u8 0, .int .u8 0, .int .u8 0, .int .u8 0, .int .u8 0, .int .u8 0, .int .u8 0, .int .u8 0])]) M7) ?_
  rotate_left
  · intro w hS; go_simp; try with_reducible rfl
  try simp only [Act.put, List.setIfInBounds_toArray, List.set_cons_zero, List.set_cons_succ]
  refine wpAnyH_ready (rs := [15]) (by kernel_rfl) (by simp) ?_
  refine br_cell M7 3 rfl (by kernel_rfl) 5 (.tmp 84) _ rfl rfl rfl _ rfl _ rfl (by kernel_rfl) (by kernel_rfl) rfl rfl #[.int .u8 (P 0), .int .u8 (P 1), .int .u8 (P 2), .int .u8 (P 3), .int .u8 (P 4), .int .u8 (P 5), .int .u8 (P 6), .int .u8 (P 7), .int .u8 (P 8), .int .u8 (A 0), .int .u8 (A 1), .int .u8 (A 2), .int .u8 (A 3), .int .u8 (P 13), .int .u8 (P 14), .int .u8 (P 15)] (by kernel_rfl) _ rfl (fun w' M' => Mem.init (l := [(w.heap.size, 26, #[.int .u8 (P 0), .int .u8 (P 1), .int .u8 (P 2), .int .u8 (P 3), .int .u8 (P 4), .int .u8 (P 5), .int .u8 (P 6), .int .u8 (P 7), .int .u8 (P 8), .int .u8 (P 9), .int .u8 (P 10), .int .u8 (P 11), .int .u8 (P 12), .int .u8 (P 13), .int .u8 (P 14), .int .u8 (P 15), .int .i64 64]), (w.heap.size + 1, 31, a4 A), (w.heap.size + 1 + 1, 23, #[.int .u8 0, .int .u8 0, .int .u8 0, .int .u8 0, .int .u8 0, .int .u8 0, .int .u8 0, .int .u8 0, .int .u8 0, .int .u8 0, .int .u8 0, .int .u8 0, .int .u8 0, .int .u8 0, .int .u8 0, .int .u8 0])]) M') (fun s8 M8 => ?_) AllReadyH.nil
  clear M7
  try simp only [List.cons_append, List.nil_append, List.set_cons_zero, List.set_cons_succ] at M8
  try simp only [Act.put, List.setIfInBounds_toArray, List.set_cons_zero, List.set_cons_succ]
  refine wpAnyH_done (by kernel_rfl) ?_ _
  go_upto_region 17 with fail
  refine wp_region_lit ?_
  refine ly M8 (some 99) rfl (yi_row 3 23 (.tmp 6) rfl rfl rfl rfl Try.underlying23 rfl (by kernel_rfl)) ?_
  try simp only [Act.put, List.setIfInBounds_toArray, List.set_cons_zero, List.set_cons_succ]
  refine l_store M8 2 rfl 23 (.tmp 4) _ rfl rfl rfl rfl _ rfl (by kernel_rfl) (by rfl) (by kernel_rfl) _ rfl (fun s9 M9 => ?_)
  clear M8
  try simp only [List.cons_append, List.nil_append, List.set_cons_zero, List.set_cons_succ] at M9
  try simp only [Act.put, List.setIfInBounds_toArray, List.set_cons_zero, List.set_cons_succ]
  refine lv (by kernel_rfl) (some 5) rfl (v := ?_) ?_ ?_
  rotate_left
  · go_simp; try with_reducible rfl
  try simp only [Act.put, List.setIfInBounds_toArray, List.set_cons_zero, List.set_cons_succ]
  refine wpList_nil ?_
  go_wp2_with fail
  exact bodyPost_ret (v := .tuple #[.agg #[.int .u8 (P 0), .int .u8 (P 1), .int .u8 (P 2), .int .u8 (P 3), .int .u8 (P 4), .int .u8 (P 5), .int .u8 (P 6), .int .u8 (P 7), .int .u8 (P 8), .int .u8 (A 0), .int .u8 (A 1), .int .u8 (A 2), .int .u8 (A 3), .int .u8 (P 13), .int .u8 (P 14), .int .u8 (P 15)], .bool true]) (results_cell_tmp rfl (M9.row (i := 2) rfl) _ rfl _ rfl Try.underlying23 rfl (by kernel_rfl)) rfl ⟨rfl, M9.below⟩
set_option maxRecDepth 100000 in
set_option maxHeartbeats 4000000 in
theorem rextract_64 (P X : Nat → Int) (w : World) (h : InsideP P X 64) (h8 : X 8 = 0) : Calls Try.prog 17 #[net P 64, .agg (a16 X)] w fun e w' => e = .returned (.tuple #[.agg #[.int .u8 (X 9), .int .u8 (X 10), .int .u8 (X 11), .int .u8 (X 12)], .bool true]) ∧ Below w.heap.size w w' := by
  have c20 := fun w => rinside_any P X 64 w true (by simp [h])
  have t8 : (X 8 != 0) = false := by simp [h8]
  clear h h8
  go_enter Try.func17, Try.ntmps17
  go_upto_region 1 with fail
  refine hide_w (Mem.three w 26 23 31 #[.int .u8 (P 0), .int .u8 (P 1), .int .u8 (P 2), .int .u8 (P 3), .int .u8 (P 4), .int .u8 (P 5), .int .u8 (P 6), .int .u8 (P 7), .int .u8 (P 8), .int .u8 (P 9), .int .u8 (P 10), .int .u8 (P 11), .int .u8 (P 12), .int .u8 (P 13), .int .u8 (P 14), .int .u8 (P 15), .int .i64 64] (a16 X) #[.int .u8 0, .int .u8 0, .int .u8 0, .int .u8 0]) (fun w0 M0 => ?_)
  refine wp_region_lit ?_
  refine ly M0 (some 6) rfl (yi_row 0 26 (.tmp 2) rfl rfl rfl rfl Try.underlying26 rfl (by kernel_rfl)) ?_
  try simp only [Act.put, List.setIfInBounds_toArray, List.set_cons_zero, List.set_cons_succ]
  refine ly M0 (some 7) rfl (yi_row 1 23 (.tmp 3) rfl rfl rfl rfl Try.underlying23 rfl (by kernel_rfl)) ?_
  try simp only [Act.put, List.setIfInBounds_toArray, List.set_cons_zero, List.set_cons_succ]
  refine l_call rfl (some 8) rfl (c20 _) (by kernel_rfl) (fun s1 hb1 => ?_)
  have M1 := M0.call hb1
  clear hb1 M0
  try simp only [Act.put, List.setIfInBounds_toArray, List.set_cons_zero, List.set_cons_succ]
  refine lv (by kernel_rfl) (some 9) rfl (v := ?_) ?_ ?_
  rotate_left
  · go_simp; try with_reducible rfl
  try simp only [Act.put, List.setIfInBounds_toArray, List.set_cons_zero, List.set_cons_succ]
  refine lv (by kernel_rfl) (some 10) rfl (v := ?_) ?_ ?_
  rotate_left
  · go_simp; try with_reducible rfl
  try simp only [Act.put, List.setIfInBounds_toArray, List.set_cons_zero, List.set_cons_succ]
  refine lv (by kernel_rfl) (some 11) rfl (v := ?_) ?_ ?_
  rotate_left
  · go_simp; try with_reducible rfl
  try simp only [Act.put, List.setIfInBounds_toArray, List.set_cons_zero, List.set_cons_succ]
  refine ly M1 (some 12) rfl (yi_cell 1 5 (.tmp 11) rfl rfl rfl _ rfl _ Try.underlying5 rfl) ?_
  try simp only [Act.put, List.setIfInBounds_toArray, List.set_cons_zero, List.set_cons_succ]
  refine lv (by kernel_rfl) (some 13) rfl (v := ?_) ?_ ?_
  rotate_left
  · go_simp; try with_reducible rfl
  try simp only [Act.put, List.setIfInBounds_toArray, List.set_cons_zero, List.set_cons_succ]
  refine lv (by kernel_rfl) (some 14) rfl (v := ?_) ?_ ?_
  rotate_left
  · go_simp; try with_reducible rfl
  try simp only [Act.put, List.setIfInBounds_toArray, List.set_cons_zero, List.set_cons_succ]
  refine wpList_nil ?_
  go_upto_region 3 with fail
  refine wp_region_lit ?_
  refine lv (by kernel_rfl) (some 16) rfl (v := ?_) ?_ ?_
  rotate_left
  · go_simp; try with_reducible rfl
  try simp only [Act.put, List.setIfInBounds_toArray, List.set_cons_zero, List.set_cons_succ]
  refine ly M1 (some 17) rfl (yi_cell 0 3 (.tmp 16) rfl rfl rfl _ rfl _ Try.underlying3 rfl) ?_
  try simp only [Act.put, List.setIfInBounds_toArray, List.set_cons_zero, List.set_cons_succ]
  refine wpList_nil ?_
  go_upto_region 4 with fail
  refine wp_region_lit ?_
  refine lv (by kernel_rfl) (some 19) rfl (v := ?_) ?_ ?_
  rotate_left
  · go_simp; try with_reducible rfl
  try simp only [Act.put, List.setIfInBounds_toArray, List.set_cons_zero, List.set_cons_succ]
  refine lv (by kernel_rfl) (some 18) rfl (v := ?_) ?_ ?_
  rotate_left
  · go_simp; try with_reducible rfl
  try simp only [Act.put, List.setIfInBounds_toArray, List.set_cons_zero, List.set_cons_succ]
  refine wpList_nil ?_
  go_upto_region 6 with fail
  refine wp_region_lit ?_
  refine lv (by kernel_rfl) (some 30) rfl (v := ?_) ?_ ?_
  rotate_left
  · go_simp; try with_reducible rfl
  try simp only [Act.put, List.setIfInBounds_toArray, List.set_cons_zero, List.set_cons_succ]
  refine lv (by kernel_rfl) (some 29) rfl (v := ?_) ?_ ?_
  rotate_left
  · go_simp; try with_reducible rfl
  try simp only [Act.put, List.setIfInBounds_toArray, List.set_cons_zero, List.set_cons_succ]
  refine wpList_nil ?_
  go_upto_region 8 with fail
  refine wp_region_lit ?_
  refine lv (by kernel_rfl) (some 41) rfl (v := ?_) ?_ ?_
  rotate_left
  · go_simp; try with_reducible rfl
  try simp only [Act.put, List.setIfInBounds_toArray, List.set_cons_zero, List.set_cons_succ]
  refine lv (by kernel_rfl) (some 40) rfl (v := ?_) ?_ ?_
  rotate_left
  · go_simp; try with_reducible rfl
  try simp only [Act.put, List.setIfInBounds_toArray, List.set_cons_zero, List.set_cons_succ]
  refine wpList_nil ?_
  go_upto_region 10 with fail
  refine wp_region_lit ?_
  refine lv (by kernel_rfl) (some 52) rfl (v := ?_) ?_ ?_
  rotate_left
  · go_simp; try with_reducible rfl
  try simp only [Act.put, List.setIfInBounds_toArray, List.set_cons_zero, List.set_cons_succ]
  refine lv (by kernel_rfl) (some 51) rfl (v := ?_) ?_ ?_
  rotate_left
  · go_simp; try with_reducible rfl
  try simp only [Act.put, List.setIfInBounds_toArray, List.set_cons_zero, List.set_cons_succ]
  refine wpList_nil ?_
  go_upto_region 12 with fail
  refine wp_region_lit ?_
  refine lv (by kernel_rfl) (some 63) rfl (v := ?_) ?_ ?_
  rotate_left
  · go_simp; try with_reducible rfl
  try simp only [Act.put, List.setIfInBounds_toArray, List.set_cons_zero, List.set_cons_succ]
  refine lv (by kernel_rfl) (some 62) rfl (v := ?_) ?_ ?_
  rotate_left
  · go_simp; try with_reducible rfl
  try simp only [Act.put, List.setIfInBounds_toArray, List.set_cons_zero, List.set_cons_succ]
  refine wpList_nil ?_
  go_upto_region 13 with fail
  refine wp_region_lit ?_
  refine lv (by kernel_rfl) (some 64) rfl (v := ?_) ?_ ?_
  rotate_left
  · go_simp; try with_reducible rfl
  try simp only [Act.put, List.setIfInBounds_toArray, List.set_cons_zero, List.set_cons_succ]
  refine ly M1 (some 65) rfl (yi_cell 1 5 (.tmp 64) rfl rfl rfl _ rfl _ Try.underlying5 rfl) ?_
  try simp only [Act.put, List.setIfInBounds_toArray, List.set_cons_zero, List.set_cons_succ]
  refine lv (by kernel_rfl) (some 66) rfl (v := ?_) ?_ ?_
  rotate_left
  · go_simp; try with_reducible rfl
  try simp only [Act.put, List.setIfInBounds_toArray, List.set_cons_zero, List.set_cons_succ]
  refine ly M1 (some 67) rfl (yi_cell 1 5 (.tmp 66) rfl rfl rfl _ rfl _ Try.underlying5 rfl) ?_
  try simp only [Act.put, List.setIfInBounds_toArray, List.set_cons_zero, List.set_cons_succ]
  refine lv (by kernel_rfl) (some 68) rfl (v := ?_) ?_ ?_
  rotate_left
  · go_simp; try with_reducible rfl
  try simp only [Act.put, List.setIfInBounds_toArray, List.set_cons_zero, List.set_cons_succ]
  refine ly M1 (some 69) rfl (yi_cell 1 5 (.tmp 68) rfl rfl rfl _ rfl _ Try.underlying5 rfl) ?_
  try simp only [Act.put, List.setIfInBounds_toArray, List.set_cons_zero, List.set_cons_succ]
  refine lv (by kernel_rfl) (some 70) rfl (v := ?_) ?_ ?_
  rotate_left
  · go_simp; try with_reducible rfl
  try simp only [Act.put, List.setIfInBounds_toArray, List.set_cons_zero, List.set_cons_succ]
  refine ly M1 (some 71) rfl (yi_cell 1 5 (.tmp 70) rfl rfl rfl _ rfl _ Try.underlying5 rfl) ?_
  try simp only [Act.put, List.setIfInBounds_toArray, List.set_cons_zero, List.set_cons_succ]
  refine lv (by kernel_rfl) (some 72) rfl (v := ?_) ?_ ?_
  rotate_left
  · go_simp; try with_reducible rfl
  try simp only [Act.put, List.setIfInBounds_toArray, List.set_cons_zero, List.set_cons_succ]
  refine l_store M1 2 rfl 31 (.tmp 4) _ rfl rfl rfl rfl _ rfl (by kernel_rfl) (by rfl) (by kernel_rfl) _ rfl (fun s2 M2 => ?_)
  clear M1
  try simp only [List.cons_append, List.nil_append, List.set_cons_zero, List.set_cons_succ] at M2
  try simp only [Act.put, List.setIfInBounds_toArray, List.set_cons_zero, List.set_cons_succ]
  refine lv (by kernel_rfl) (some 5) rfl (v := ?_) ?_ ?_
  rotate_left
  · go_simp; try with_reducible rfl
  try simp only [Act.put, List.setIfInBounds_toArray, List.set_cons_zero, List.set_cons_succ]
  refine wpList_nil ?_
  go_wp2_with fail
  exact bodyPost_ret (v := .tuple #[.agg #[.int .u8 (X 9), .int .u8 (X 10), .int .u8 (X 11), .int .u8 (X 12)], .bool true]) (results_cell_tmp rfl (M2.row (i := 2) rfl) _ rfl _ rfl Try.underlying31 rfl (by kernel_rfl)) rfl ⟨rfl, M2.below⟩
set_option maxRecDepth 100000 in
set_option maxHeartbeats 4000000 in
theorem rembed_96 (P A : Nat → Int) (w : World) (h : RightP P 96) : Calls Try.prog 16 #[net P 96, .agg (a4 A)] w fun e w' => e = .returned (.tuple #[.agg #[.int .u8 (P 0), .int .u8 (P 1), .int .u8 (P 2), .int .u8 (P 3), .int .u8 (P 4), .int .u8 (P 5), .int .u8 (P 6), .int .u8 (P 7), .int .u8 (P 8), .int .u8 (P 9), .int .u8 (P 10), .int .u8 (P 11), .int .u8 (A 0), .int .u8 (A 1), .int .u8 (A 2), .int .u8 (A 3)], .bool true]) ∧ Below w.heap.size w w' := by
  have c18 := fun w => rright_t P 96 w h
  clear h
  go_enter Try.func16, Try.ntmps16
  go_upto_region 1 with fail
  refine hide_w (Mem.three w 26 31 23 #[.int .u8 (P 0), .int .u8 (P 1), .int .u8 (P 2), .int .u8 (P 3), .int .u8 (P 4), .int .u8 (P 5), .int .u8 (P 6), .int .u8 (P 7), .int .u8 (P 8), .int .u8 (P 9), .int .u8 (P 10), .int .u8 (P 11), .int .u8 (P 12), .int .u8 (P 13), .int .u8 (P 14), .int .u8 (P 15), .int .i64 96] (a4 A) #[.int .u8 0, .int .u8 0, .int .u8 0, .int .u8 0, .int .u8 0, .int .u8 0, .int .u8 0, .int .u8 0, .int .u8 0, .int .u8 0, .int .u8 0, .int .u8 0, .int .u8 0, .int .u8 0, .int .u8 0, .int .u8 0]) (fun w0 M0 => ?_)
  refine wp_region_lit ?_
  refine lv (by kernel_rfl) (some 7) rfl (v := ?_) ?_ ?_
  rotate_left
  · go_simp; try with_reducible rfl
  try simp only [Act.put, List.setIfInBounds_toArray, List.set_cons_zero, List.set_cons_succ]
  refine ly M0 (some 8) rfl (yi_part 0 23 (.tmp 7) rfl rfl rfl 0 rfl (a16 P) Try.underlying23 rfl (by kernel_rfl) (by kernel_rfl)) ?_
  try simp only [Act.put, List.setIfInBounds_toArray, List.set_cons_zero, List.set_cons_succ]
  refine l_alloc rfl (some 6) rfl #[.int .u8 0, .int .u8 0, .int .u8 0, .int .u8 0, .int .u8 0, .int .u8 0, .int .u8 0, .int .u8 0, .int .u8 0, .int .u8 0, .int .u8 0, .int .u8 0, .int .u8 0, .int .u8 0, .int .u8 0, .int .u8 0] 23 (by kernel_rfl) ?_
  have M1 := M0.new rfl 23 #[.int .u8 0, .int .u8 0, .int .u8 0, .int .u8 0, .int .u8 0, .int .u8 0, .int .u8 0, .int .u8 0, .int .u8 0, .int .u8 0, .int .u8 0, .int .u8 0, .int .u8 0, .int .u8 0, .int .u8 0, .int .u8 0]
  clear M0
  try simp only [List.cons_append, List.nil_append, List.set_cons_zero, List.set_cons_succ] at M1
  try simp only [Act.put, List.setIfInBounds_toArray, List.set_cons_zero, List.set_cons_succ]
  refine l_store M1 3 rfl 23 (.tmp 6) _ rfl rfl rfl rfl _ rfl (by kernel_rfl) (by rfl) (by kernel_rfl) _ rfl (fun s2 M2 => ?_)
  clear M1
  try simp only [List.cons_append, List.nil_append, List.set_cons_zero, List.set_cons_succ] at M2
  try simp only [Act.put, List.setIfInBounds_toArray, List.set_cons_zero, List.set_cons_succ]
  refine wpList_nil ?_
  go_upto_region 2 with fail
  refine wp_region_lit ?_
  refine ly M2 (some 9) rfl (yi_row 0 26 (.tmp 2) rfl rfl rfl rfl Try.underlying26 rfl (by kernel_rfl)) ?_
  try simp only [Act.put, List.setIfInBounds_toArray, List.set_cons_zero, List.set_cons_succ]
  refine l_call rfl (some 10) rfl (c18 _) (by kernel_rfl) (fun s3 hb3 => ?_)
  have M3 := M2.call hb3
  clear hb3 M2
  try simp only [Act.put, List.setIfInBounds_toArray, List.set_cons_zero, List.set_cons_succ]
  refine lv (by kernel_rfl) (some 11) rfl (v := ?_) ?_ ?_
  rotate_left
  · go_simp; try with_reducible rfl
  try simp only [Act.put, List.setIfInBounds_toArray, List.set_cons_zero, List.set_cons_succ]
  refine wpList_nil ?_
  go_upto_region 4 with fail
  refine wp_region_lit ?_
  refine lv (by kernel_rfl) (some 13) rfl (v := ?_) ?_ ?_
  rotate_left
  · go_simp; try with_reducible rfl
  try simp only [Act.put, List.setIfInBounds_toArray, List.set_cons_zero, List.set_cons_succ]
  refine ly M3 (some 14) rfl (yi_cell 0 3 (.tmp 13) rfl rfl rfl _ rfl _ Try.underlying3 rfl) ?_
  try simp only [Act.put, List.setIfInBounds_toArray, List.set_cons_zero, List.set_cons_succ]
  refine wpList_nil ?_
  go_upto_region 5 with fail
  refine wp_region_lit ?_
  refine lv (by kernel_rfl) (some 16) rfl (v := ?_) ?_ ?_
  rotate_left
  · go_simp; try with_reducible rfl
  try simp only [Act.put, List.setIfInBounds_toArray, List.set_cons_zero, List.set_cons_succ]
  refine lv (by kernel_rfl) (some 15) rfl (v := ?_) ?_ ?_
  rotate_left
  · go_simp; try with_reducible rfl
  try simp only [Act.put, List.setIfInBounds_toArray, List.set_cons_zero, List.set_cons_succ]
  refine wpList_nil ?_
  go_upto_region 7 with fail
  refine wp_region_lit ?_
  refine lv (by kernel_rfl) (some 30) rfl (v := ?_) ?_ ?_
  rotate_left
  · go_simp; try with_reducible rfl
  try simp only [Act.put, List.setIfInBounds_toArray, List.set_cons_zero, List.set_cons_succ]
  refine lv (by kernel_rfl) (some 29) rfl (v := ?_) ?_ ?_
  rotate_left
  · go_simp; try with_reducible rfl
  try simp only [Act.put, List.setIfInBounds_toArray, List.set_cons_zero, List.set_cons_succ]
  refine wpList_nil ?_
  go_upto_region 9 with fail
  refine wp_region_lit ?_
  refine lv (by kernel_rfl) (some 44) rfl (v := ?_) ?_ ?_
  rotate_left
  · go_simp; try with_reducible rfl
  try simp only [Act.put, List.setIfInBounds_toArray, List.set_cons_zero, List.set_cons_succ]
  refine lv (by kernel_rfl) (some 43) rfl (v := ?_) ?_ ?_
  rotate_left
  · go_simp; try with_reducible rfl
  try simp only [Act.put, List.setIfInBounds_toArray, List.set_cons_zero, List.set_cons_succ]
  refine wpList_nil ?_
  go_upto_region 11 with fail
  refine wp_region_lit ?_
  refine lv (by kernel_rfl) (some 58) rfl (v := ?_) ?_ ?_
  rotate_left
  · go_simp; try with_reducible rfl
  try simp only [Act.put, List.setIfInBounds_toArray, List.set_cons_zero, List.set_cons_succ]
  refine lv (by kernel_rfl) (some 57) rfl (v := ?_) ?_ ?_
  rotate_left
  · go_simp; try with_reducible rfl
  try simp only [Act.put, List.setIfInBounds_toArray, List.set_cons_zero, List.set_cons_succ]
  refine wpList_nil ?_
  go_upto_region 13 with fail
  refine wp_region_lit ?_
  refine lv (by kernel_rfl) (some 72) rfl (v := ?_) ?_ ?_
  rotate_left
  · go_simp; try with_reducible rfl
  try simp only [Act.put, List.setIfInBounds_toArray, List.set_cons_zero, List.set_cons_succ]
  refine lv (by kernel_rfl) (some 71) rfl (v := ?_) ?_ ?_
  rotate_left
  · go_simp; try with_reducible rfl
  try simp only [Act.put, List.setIfInBounds_toArray, List.set_cons_zero, List.set_cons_succ]
  refine wpList_nil ?_
  go_upto_region 15 with fail
  refine wp_region_lit ?_
  refine lv (by kernel_rfl) (some 86) rfl (v := ?_) ?_ ?_
  rotate_left
  · go_simp; try with_reducible rfl
  try simp only [Act.put, List.setIfInBounds_toArray, List.set_cons_zero, List.set_cons_succ]
  refine lv (by kernel_rfl) (some 85) rfl (v := ?_) ?_ ?_
  rotate_left
  · go_simp; try with_reducible rfl
  try simp only [Act.put, List.setIfInBounds_toArray, List.set_cons_zero, List.set_cons_succ]
  refine wpList_nil ?_
  go_upto_region 16 with fail
  refine wp_region_held_drew (S := fun w' => Mem w w' [(w.heap.size, 26, #[.int .u8 (P 0), .int .u8 (P 1), .int .u8 (P 2), .int .u8 (P 3), .int .u8 (P 4), .int .u8 (P 5), .int .u8 (P 6), .int .u8 (P 7), .int .u8 (P 8), .int .u8 (P 9), .int .u8 (P 10), .int .u8 (P 11), .int .u8 (P 12), .int .u8 (P 13), .int .u8 (P 14), .int .u8 (P 15), .int .i64 96]), (w.heap.size + 1, 31, a4 A), (w.heap.size + 1 + 1, 23, #[.int .u8 0, .int .u8 0, .int .u8 0, .int .u8 0, .int .u8 0, .int .u8 0, .int .u8 0, .int .u8 0, .int .u8 0, .int .u8 0, .int .u8 0, .int .u8 0, .int .u8 0, .int .u8 0, .int .u8 0, .int .u8 0])]) (by kernel_rfl) (Mem.init (l := [(w.heap.size, 26, #[.int .u8 (P 0), .int .u8 (P 1), .int .u8 (P 2), .int .u8 (P 3), .int .u8 (P 4), .int .u8 (P 5), .int .u8 (P 6), .int .u8 (P 7), .int .u8 (P 8), .int .u8 (P 9), .int .u8 (P 10), .int .u8 (P 11), .int .u8 (P 12), .int .u8 (P 13), .int .u8 (P 14), .int .u8 (P 15), .int .i64 96]), (w.heap.size + 1, 31, a4 A), (w.heap.size + 1 + 1, 23, #[.int .u8 0, .int .u8 0, .int .u8 0, .int .u8 0, .int .u8 0, .int .u8 0, .int .u8 0, .int .u8 0, .int .u8 0, .int .u8 0, .int .u8 0, .int .u8 0, .int .u8 0, .int .u8 0, .int .u8 0, .int .u8 0])]) M3.drew) (fun _ => ?_)
  have M4 := M3.drew
  refine tk (i := 0) (v := ?_) rfl (some 87) rfl (by kernel_rfl) (by kernel_rfl) (by kernel_rfl) (fun _ _ _ h => h) (Or.inl ⟨by kernel_rfl, ?_⟩) (Mem.init (l := [(w.heap.size, 26, #[.int .u8 (P 0), .int .u8 (P 1), .int .u8 (P 2), .int .u8 (P 3), .int .u8 (P 4), .int .u8 (P 5), .int .u8 (P 6), .int .u8 (P 7), .int .u8 (P 8), .int .u8 (P 9), .int .u8 (P 10), .int .u8 (P 11), .int .u8 (P 12), .int .u8 (P 13), .int .u8 (P 14), .int .u8 (P 15), .int .i64 96]), (w.heap.size + 1, 31, a4 A), (w.heap.size + 1 + 1, 23, #[.int .u8 0, .int .u8 0, .int .u8 0, .int .u8 0, .int .u8 0, .int .u8 0, .int .u8 0, .int .u8 0, .int .u8 0, .int .u8 0, .int .u8 0, .int .u8 0, .int .u8 0, .int .u8 0, .int .u8 0, .int .u8 0])]) M4) ?_
  rotate_left
  · intro w hS; go_simp; try with_reducible rfl
  try simp only [Act.put, List.setIfInBounds_toArray, List.set_cons_zero, List.set_cons_succ]
  refine tk (i := 1) rfl (some 88) rfl (by kernel_rfl) (by kernel_rfl) (by kernel_rfl) (fun _ _ _ h => h) (yi_cell 1 5 (.tmp 87) rfl rfl rfl _ rfl _ Try.underlying5 rfl) (Mem.init (l := [(w.heap.size, 26, #[.int .u8 (P 0), .int .u8 (P 1), .int .u8 (P 2), .int .u8 (P 3), .int .u8 (P 4), .int .u8 (P 5), .int .u8 (P 6), .int .u8 (P 7), .int .u8 (P 8), .int .u8 (P 9), .int .u8 (P 10), .int .u8 (P 11), .int .u8 (P 12), .int .u8 (P 13), .int .u8 (P 14), .int .u8 (P 15), .int .i64 96]), (w.heap.size + 1, 31, a4 A), (w.heap.size + 1 + 1, 23, #[.int .u8 0, .int .u8 0, .int .u8 0, .int .u8 0, .int .u8 0, .int .u8 0, .int .u8 0, .int .u8 0, .int .u8 0, .int .u8 0, .int .u8 0, .int .u8 0, .int .u8 0, .int .u8 0, .int .u8 0, .int .u8 0])]) M4) ?_
  try simp only [Act.put, List.setIfInBounds_toArray, List.set_cons_zero, List.set_cons_succ]
  refine tk (i := 2) (v := ?_) rfl (some 89) rfl (by kernel_rfl) (by kernel_rfl) (by kernel_rfl) (fun _ _ _ h => h) (Or.inl ⟨by kernel_rfl, ?_⟩) (Mem.init (l := [(w.heap.size, 26, #[.int .u8 (P 0), .int .u8 (P 1), .int .u8 (P 2), .int .u8 (P 3), .int .u8 (P 4), .int .u8 (P 5), .int .u8 (P 6), .int .u8 (P 7), .int .u8 (P 8), .int .u8 (P 9), .int .u8 (P 10), .int .u8 (P 11), .int .u8 (P 12), .int .u8 (P 13), .int .u8 (P 14), .int .u8 (P 15), .int .i64 96]), (w.heap.size + 1, 31, a4 A), (w.heap.size + 1 + 1, 23, #[.int .u8 0, .int .u8 0, .int .u8 0, .int .u8 0, .int .u8 0, .int .u8 0, .int .u8 0, .int .u8 0, .int .u8 0, .int .u8 0, .int .u8 0, .int .u8 0, .int .u8 0, .int .u8 0, .int .u8 0, .int .u8 0])]) M4) ?_
  rotate_left
  · intro w hS; go_simp; try with_reducible rfl
  try simp only [Act.put, List.setIfInBounds_toArray, List.set_cons_zero, List.set_cons_succ]
  refine tk (i := 3) rfl (some 90) rfl (by kernel_rfl) (by kernel_rfl) (by kernel_rfl) (fun _ _ _ h => h) (yi_cell 1 5 (.tmp 89) rfl rfl rfl _ rfl _ Try.underlying5 rfl) (Mem.init (l := [(w.heap.size, 26, #[.int .u8 (P 0), .int .u8 (P 1), .int .u8 (P 2), .int .u8 (P 3), .int .u8 (P 4), .int .u8 (P 5), .int .u8 (P 6), .int .u8 (P 7), .int .u8 (P 8), .int .u8 (P 9), .int .u8 (P 10), .int .u8 (P 11), .int .u8 (P 12), .int .u8 (P 13), .int .u8 (P 14), .int .u8 (P 15), .int .i64 96]), (w.heap.size + 1, 31, a4 A), (w.heap.size + 1 + 1, 23, #[.int .u8 0, .int .u8 0, .int .u8 0, .int .u8 0, .int .u8 0, .int .u8 0, .int .u8 0, .int .u8 0, .int .u8 0, .int .u8 0, .int .u8 0, .int .u8 0, .int .u8 0, .int .u8 0, .int .u8 0, .int .u8 0])]) M4) ?_
  try simp only [Act.put, List.setIfInBounds_toArray, List.set_cons_zero, List.set_cons_succ]
  refine tk (i := 4) (v := ?_) rfl (some 91) rfl (by kernel_rfl) (by kernel_rfl) (by kernel_rfl) (fun _ _ _ h => h) (Or.inl ⟨by kernel_rfl, ?_⟩) (Mem.init (l := [(w.heap.size, 26, #[.int .u8 (P 0), .int .u8 (P 1), .int .u8 (P 2), .int .u8 (P 3), .int .u8 (P 4), .int .u8 (P 5), .int .u8 (P 6), .int .u8 (P 7), .int .u8 (P 8), .int .u8 (P 9), .int .u8 (P 10), .int .u8 (P 11), .int .u8 (P 12), .int .u8 (P 13), .int .u8 (P 14), .int .u8 (P 15), .int .i64 96]), (w.heap.size + 1, 31, a4 A), (w.heap.size + 1 + 1, 23, #[.int .u8 0, .int .u8 0, .int .u8 0, .int .u8 0, .int .u8 0, .int .u8 0, .int .u8 0, .int .u8 0, .int .u8 0, .int .u8 0, .int .u8 0, .int .u8 0, .int .u8 0, .int .u8 0, .int .u8 0, .int .u8 0])]) M4) ?_
  rotate_left
  · intro w hS; go_simp; try with_reducible rfl
  try simp only [Act.put, List.setIfInBounds_toArray, List.set_cons_zero, List.set_cons_succ]
  refine tk (i := 5) rfl (some 92) rfl (by kernel_rfl) (by kernel_rfl) (by kernel_rfl) (fun _ _ _ h => h) (yi_cell 1 5 (.tmp 91) rfl rfl rfl _ rfl _ Try.underlying5 rfl) (Mem.init (l := [(w.heap.size, 26, #[.int .u8 (P 0), .int .u8 (P 1), .int .u8 (P 2), .int .u8 (P 3), .int .u8 (P 4), .int .u8 (P 5), .int .u8 (P 6), .int .u8 (P 7), .int .u8 (P 8), .int .u8 (P 9), .int .u8 (P 10), .int .u8 (P 11), .int .u8 (P 12), .int .u8 (P 13), .int .u8 (P 14), .int .u8 (P 15), .int .i64 96]), (w.heap.size + 1, 31, a4 A), (w.heap.size + 1 + 1, 23, #[.int .u8 0, .int .u8 0, .int .u8 0, .int .u8 0, .int .u8 0, .int .u8 0, .int .u8 0, .int .u8 0, .int .u8 0, .int .u8 0, .int .u8 0, .int .u8 0, .int .u8 0, .int .u8 0, .int .u8 0, .int .u8 0])]) M4) ?_
  try simp only [Act.put, List.setIfInBounds_toArray, List.set_cons_zero, List.set_cons_succ]
  refine tk (i := 6) (v := ?_) rfl (some 93) rfl (by kernel_rfl) (by kernel_rfl) (by kernel_rfl) (fun _ _ _ h => h) (Or.inl ⟨by kernel_rfl, ?_⟩) (Mem.init (l := [(w.heap.size, 26, #[.int .u8 (P 0), .int .u8 (P 1), .int .u8 (P 2), .int .u8 (P 3), .int .u8 (P 4), .int .u8 (P 5), .int .u8 (P 6), .int .u8 (P 7), .int .u8 (P 8), .int .u8 (P 9), .int .u8 (P 10), .int .u8 (P 11), .int .u8 (P 12), .int .u8 (P 13), .int .u8 (P 14), .int .u8 (P 15), .int .i64 96]), (w.heap.size + 1, 31, a4 A), (w.heap.size + 1 + 1, 23, #[.int .u8 0, .int .u8 0, .int .u8 0, .int .u8 0, .int .u8 0, .int .u8 0, .int .u8 0, .int .u8 0, .int .u8 0, .int .u8 0, .int .u8 0, .int .u8 0, .int .u8 0, .int .u8 0, .int .u8 0, .int .u8 0])]) M4) ?_
  rotate_left
  · intro w hS; go_simp; try with_reducible rfl
  try simp only [Act.put, List.setIfInBounds_toArray, List.set_cons_zero, List.set_cons_succ]
  refine tk (i := 7) rfl (some 94) rfl (by kernel_rfl) (by kernel_rfl) (by kernel_rfl) (fun _ _ _ h => h) (yi_cell 1 5 (.tmp 93) rfl rfl rfl _ rfl _ Try.underlying5 rfl) (Mem.init (l := [(w.heap.size, 26, #[.int .u8 (P 0), .int .u8 (P 1), .int .u8 (P 2), .int .u8 (P 3), .int .u8 (P 4), .int .u8 (P 5), .int .u8 (P 6), .int .u8 (P 7), .int .u8 (P 8), .int .u8 (P 9), .int .u8 (P 10), .int .u8 (P 11), .int .u8 (P 12), .int .u8 (P 13), .int .u8 (P 14), .int .u8 (P 15), .int .i64 96]), (w.heap.size + 1, 31, a4 A), (w.heap.size + 1 + 1, 23, #[.int .u8 0, .int .u8 0, .int .u8 0, .int .u8 0, .int .u8 0, .int .u8 0, .int .u8 0, .int .u8 0, .int .u8 0, .int .u8 0, .int .u8 0, .int .u8 0, .int .u8 0, .int .u8 0, .int .u8 0, .int .u8 0])]) M4) ?_
  try simp only [Act.put, List.setIfInBounds_toArray, List.set_cons_zero, List.set_cons_succ]
  refine tk (i := 8) (v := ?_) rfl (some 95) rfl (by kernel_rfl) (by kernel_rfl) (by kernel_rfl) (fun _ _ _ h => h) (Or.inl ⟨by kernel_rfl, ?_⟩) (Mem.init (l := [(w.heap.size, 26, #[.int .u8 (P 0), .int .u8 (P 1), .int .u8 (P 2), .int .u8 (P 3), .int .u8 (P 4), .int .u8 (P 5), .int .u8 (P 6), .int .u8 (P 7), .int .u8 (P 8), .int .u8 (P 9), .int .u8 (P 10), .int .u8 (P 11), .int .u8 (P 12), .int .u8 (P 13), .int .u8 (P 14), .int .u8 (P 15), .int .i64 96]), (w.heap.size + 1, 31, a4 A), (w.heap.size + 1 + 1, 23, #[.int .u8 0, .int .u8 0, .int .u8 0, .int .u8 0, .int .u8 0, .int .u8 0, .int .u8 0, .int .u8 0, .int .u8 0, .int .u8 0, .int .u8 0, .int .u8 0, .int .u8 0, .int .u8 0, .int .u8 0, .int .u8 0])]) M4) ?_
  rotate_left
  · intro w hS; go_simp; try with_reducible rfl
  try simp only [Act.put, List.setIfInBounds_toArray, List.set_cons_zero, List.set_cons_succ]
  refine wpAnyH_ready (rs := [9]) (by kernel_rfl) (by simp) ?_
  refine br_cell M4 3 rfl (by kernel_rfl) 5 (.tmp 95) _ rfl rfl rfl _ rfl _ rfl (by kernel_rfl) (by kernel_rfl) rfl rfl #[.int .u8 (P 0), .int .u8 (P 1), .int .u8 (P 2), .int .u8 (P 3), .int .u8 (P 4), .int .u8 (P 5), .int .u8 (P 6), .int .u8 (P 7), .int .u8 (P 8), .int .u8 (P 9), .int .u8 (P 10), .int .u8 (P 11), .int .u8 (A 0), .int .u8 (P 13), .int .u8 (P 14), .int .u8 (P 15)] (by kernel_rfl) _ rfl (fun w' M' => Mem.init (l := [(w.heap.size, 26, #[.int .u8 (P 0), .int .u8 (P 1), .int .u8 (P 2), .int .u8 (P 3), .int .u8 (P 4), .int .u8 (P 5), .int .u8 (P 6), .int .u8 (P 7), .int .u8 (P 8), .int .u8 (P 9), .int .u8 (P 10), .int .u8 (P 11), .int .u8 (P 12), .int .u8 (P 13), .int .u8 (P 14), .int .u8 (P 15), .int .i64 96]), (w.heap.size + 1, 31, a4 A), (w.heap.size + 1 + 1, 23, #[.int .u8 0, .int .u8 0, .int .u8 0, .int .u8 0, .int .u8 0, .int .u8 0, .int .u8 0, .int .u8 0, .int .u8 0, .int .u8 0, .int .u8 0, .int .u8 0, .int .u8 0, .int .u8 0, .int .u8 0, .int .u8 0])]) M') (fun s5 M5 => ?_) AllReadyH.nil
  clear M4
  try simp only [List.cons_append, List.nil_append, List.set_cons_zero, List.set_cons_succ] at M5
  try simp only [Act.put, List.setIfInBounds_toArray, List.set_cons_zero, List.set_cons_succ]
  refine tk (i := 10) (v := ?_) rfl (some 96) rfl (by kernel_rfl) (by kernel_rfl) (by kernel_rfl) (fun _ _ _ h => h) (Or.inl ⟨by kernel_rfl, ?_⟩) (Mem.init (l := [(w.heap.size, 26, #[.int .u8 (P 0), .int .u8 (P 1), .int .u8 (P 2), .int .u8 (P 3), .int .u8 (P 4), .int .u8 (P 5), .int .u8 (P 6), .int .u8 (P 7), .int .u8 (P 8), .int .u8 (P 9), .int .u8 (P 10), .int .u8 (P 11), .int .u8 (P 12), .int .u8 (P 13), .int .u8 (P 14), .int .u8 (P 15), .int .i64 96]), (w.heap.size + 1, 31, a4 A), (w.heap.size + 1 + 1, 23, #[.int .u8 0, .int .u8 0, .int .u8 0, .int .u8 0, .int .u8 0, .int .u8 0, .int .u8 0, .int .u8 0, .int .u8 0, .int .u8 0, .int .u8 0, .int .u8 0, .int .u8 0, .int .u8 0, .int .u8 0, .int .u8 0])]) M5) ?_
  rotate_left
  · intro w hS; go_simp; try with_reducible rfl
  try simp only [Act.put, List.setIfInBounds_toArray, List.set_cons_zero, List.set_cons_succ]
  refine wpAnyH_ready (rs := [11]) (by kernel_rfl) (by simp) ?_
  refine br_cell M5 3 rfl (by kernel_rfl) 5 (.tmp 96) _ rfl rfl rfl _ rfl _ rfl (by kernel_rfl) (by kernel_rfl) rfl rfl #[.int .u8 (P 0), .int .u8 (P 1), .int .u8 (P 2), .int .u8 (P 3), .int .u8 (P 4), .int .u8 (P 5), .int .u8 (P 6), .int .u8 (P 7), .int .u8 (P 8), .int .u8 (P 9), .int .u8 (P 10), .int .u8 (P 11), .int .u8 (A 0), .int .u8 (A 1), .int .u8 (P 14), .int .u8 (P 15)] (by kernel_rfl) _ rfl (fun w' M' => Mem.init (l := [(w.heap.size, 26, #[.int .u8 (P 0), .int .u8 (P 1), .int .u8 (P 2), .int .u8 (P 3), .int .u8 (P 4), .int .u8 (P 5), .int .u8 (P 6), .int .u8 (P 7), .int .u8 (P 8), .int .u8 (P 9), .int .u8 (P 10), .int .u8 (P 11), .int .u8 (P 12), .int .u8 (P 13), .int .u8 (P 14), .int .u8 (P 15), .int .i64 96]), (w.heap.size + 1, 31, a4 A), (w.heap.size + 1 + 1, 23, #[.int .u8 0, .int .u8 0, .int .u8 0, .int .u8 0, .int .u8 0, .int .u8 0, .int .u8 0, .int .u8 0, .int .u8 0, .int .u8 0, .int .u8 0, .int .u8 0, .int .u8 0, .int .u8 0, .int .u8 0, .int .u8 0])]) M') (fun s6 M6 => ?_) AllReadyH.nil
  clear M5
  try simp only [List.cons_append, List.nil_append, List.set_cons_zero, List.set_cons_succ] at M6
  try simp only [Act.put, List.setIfInBounds_toArray, List.set_cons_zero, List.set_cons_succ]
  refine tk (i := 12) (v := ?_) rfl (some 97) rfl (by kernel_rfl) (by kernel_rfl) (by kernel_rfl) (fun _ _ _ h => h) (Or.inl ⟨by kernel_rfl, ?_⟩) (Mem.init (l := [(w.heap.size, 26, #[.int .u8 (P 0), .int .u8 (P 1), .int .u8 (P 2), .int .u8 (P 3), .int .u8 (P 4), .int .u8 (P 5), .int .u8 (P 6), .int .u8 (P 7), .int .u8 (P 8), .int .u8 (P 9), .int .u8 (P 10), .int .u8 (P 11), .int .u8 (P 12), .int .u8 (P 13), .int .u8 (P 14), .int .u8 (P 15), .int .i64 96]), (w.heap.size + 1, 31, a4 A), (w.heap.size + 1 + 1, 23, #[.int .u8 0, .int .u8 0, .int .u8 0, .int .u8 0, .int .u8 0, .int .u8 0, .int .u8 0, .int .u8 0, .int .u8 0, .int .u8 0, .int .u8 0, .int .u8 0, .int .u8 0, .int .u8 0, .int .u8 0, .int .u8 0])]) M6) ?_
  rotate_left
  · intro w hS; go_simp; try with_reducible rfl
  try simp only [Act.put, List.setIfInBounds_toArray, List.set_cons_zero, List.set_cons_succ]
  refine wpAnyH_ready (rs := [13]) (by kernel_rfl) (by simp) ?_
  refine br_cell M6 3 rfl (by kernel_rfl) 5 (.tmp 97) _ rfl rfl rfl _ rfl _ rfl (by kernel_rfl) (by kernel_rfl) rfl rfl #[.int .u8 (P 0), .int .u8 (P 1), .int .u8 (P 2), .int .u8 (P 3), .int .u8 (P 4), .int .u8 (P 5), .int .u8 (P 6), .int .u8 (P 7), .int .u8 (P 8), .int .u8 (P 9), .int .u8 (P 10), .int .u8 (P 11), .int .u8 (A 0), .int .u8 (A 1), .int .u8 (A 2), .int .u8 (P 15)] (by kernel_rfl) _ rfl (fun w' M' => Mem.init (l := [(w.heap.size, 26, #[.int .u8 (P 0), .int .u8 (P 1), .int .u8 (P 2), .int .u8 (P 3), .int .u8 (P 4), .int .u8 (P 5), .int .u8 (P 6), .int .u8 (P 7), .int .u8 (P 8), .int .u8 (P 9), .int .u8 (P 10), .int .u8 (P 11), .int .u8 (P 12), .int .u8 (P 13), .int .u8 (P 14), .int .u8 (P 15), .int .i64 96]), (w.heap.size + 1, 31, a4 A), (w.heap.size + 1 + 1, 23, #[.int .u8 0, .int .u8 0, .int .u8 0, .int .u8 0, .int .u8 0, .int .u8 0, .int .u8 0, .int .u8 0, .int .u8 0, .int .u8 0, .int .u8 0, .int .u8 0, .int .u8 0, .int .u8 0, .int .u8 0, .int .u8 0])]) M') (fun s7 M7 => ?_) AllReadyH.nil
  clear M6
  try simp only [List.cons_append, List.nil_append, List.set_cons_zero, List.set_cons_succ] at M7
  try simp only [Act.put, List.setIfInBounds_toArray, List.set_cons_zero, List.set_cons_succ]
  refine tk (i := 14) (v := ?_) rfl (some 98) rfl (by kernel_rfl) (by kernel_rfl) (by kernel_rfl) (fun _ _ _ h => h) (Or.inl ⟨by kernel_rfl, ?_⟩) (Mem.init (l := [(w.heap.size, 26, #[.int .u8 (P 0), .int .u8 (P 1), .int .u8 (P 2), .int .u8 (P 3), .int .u8 (P 4), .int .u8 (P 5), .int .u8 (P 6), .int .u8 (P 7), .int .u8 (P 8), .int .u8 (P 9), .int .u8 (P 10), .int .u8 (P 11), .int .u8 (P 12), .int .u8 (P 13), .int .u8 (P 14), .int .u8 (P 15), .int .i64 96]), (w.heap.size + 1, 31, a4 A), (w.heap.size + 1 + 1, 23, #[.int .u8 0, .int .u8 0, .int .u8 0, .int .u8 0, .int .u8 0, .int .u8 0, .int .u8 0, .int .u8 0, .int .u8 0, .int .u8 0, .int .u8 0, .int .u8 0, .int .u8 0, .int .u8 0, .int .u8 0, .int .u8 0])]) M7) ?_
  rotate_left
  · intro w hS; go_simp; try with_reducible rfl
  try simp only [Act.put, List.setIfInBounds_toArray, List.set_cons_zero, List.set_cons_succ]
  refine wpAnyH_ready (rs := [15]) (by kernel_rfl) (by simp) ?_
  refine br_cell M7 3 rfl (by kernel_rfl) 5 (.tmp 98) _ rfl rfl rfl _ rfl _ rfl (by kernel_rfl) (by kernel_rfl) rfl rfl #[.int .u8 (P 0), .int .u8 (P 1), .int .u8 (P 2), .int .u8 (P 3), .int .u8 (P 4), .int .u8 (P 5), .int .u8 (P 6), .int .u8 (P 7), .int .u8 (P 8), .int .u8 (P 9), .int .u8 (P 10), .int .u8 (P 11), .int .u8 (A 0), .int .u8 (A 1), .int .u8 (A 2), .int .u8 (A 3)] (by kernel_rfl) _ rfl (fun w' M' => Mem.init (l := [(w.heap.size, 26, #[.int .u8 (P 0), .int .u8 (P 1), .int .u8 (P 2), .int .u8 (P 3), .int .u8 (P 4), .int .u8 (P 5), .int .u8 (P 6), .int .u8 (P 7), .int .u8 (P 8), .int .u8 (P 9), .int .u8 (P 10), .int .u8 (P 11), .int .u8 (P 12), .int .u8 (P 13), .int .u8 (P 14), .int .u8 (P 15), .int .i64 96]), (w.heap.size + 1, 31, a4 A), (w.heap.size + 1 + 1, 23, #[.int .u8 0, .int .u8 0, .int .u8 0, .int .u8 0, .int .u8 0, .int .u8 0, .int .u8 0, .int .u8 0, .int .u8 0, .int .u8 0, .int .u8 0, .int .u8 0, .int .u8 0, .int .u8 0, .int .u8 0, .int .u8 0])]) M') (fun s8 M8 => ?_) AllReadyH.nil
  clear M7
  try simp only [List.cons_append, List.nil_append, List.set_cons_zero, List.set_cons_succ] at M8
  try simp only [Act.put, List.setIfInBounds_toArray, List.set_cons_zero, List.set_cons_succ]
  refine wpAnyH_done (by kernel_rfl) ?_ _
  go_upto_region 17 with fail
  refine wp_region_lit ?_
  refine ly M8 (some 99) rfl (yi_row 3 23 (.tmp 6) rfl rfl rfl rfl Try.underlying23 rfl (by kernel_rfl)) ?_
  try simp only [Act.put, List.setIfInBounds_toArray, List.set_cons_zero, List.set_cons_succ]
  refine l_store M8 2 rfl 23 (.tmp 4) _ rfl rfl rfl rfl _ rfl (by kernel_rfl) (by rfl) (by kernel_rfl) _ rfl (fun s9 M9 => ?_)
  clear M8
  try simp only [List.cons_append, List.nil_append, List.set_cons_zero, List.set_cons_succ] at M9
  try simp only [Act.put, List.setIfInBounds_toArray, List.set_cons_zero, List.set_cons_succ]
  refine lv (by kernel_rfl) (some 5) rfl (v := ?_) ?_ ?_
  rotate_left
  · go_simp; try with_reducible rfl
  try simp only [Act.put, List.setIfInBounds_toArray, List.set_cons_zero, List.set_cons_succ]
  refine wpList_nil ?_
  go_wp2_with fail
  exact bodyPost_ret (v := .tuple #[.agg #[.int .u8 (P 0), .int .u8 (P 1), .int .u8 (P 2), .int .u8 (P 3), .int .u8 (P 4), .int .u8 (P 5), .int .u8 (P 6), .int .u8 (P 7), .int .u8 (P 8), .int .u8 (P 9), .int .u8 (P 10), .int .u8 (P 11), .int .u8 (A 0), .int .u8 (A 1), .int .u8 (A 2), .int .u8 (A 3)], .bool true]) (results_cell_tmp rfl (M9.row (i := 2) rfl) _ rfl _ rfl Try.underlying23 rfl (by kernel_rfl)) rfl ⟨rfl, M9.below⟩
set_option maxRecDepth 100000 in
set_option maxHeartbeats 4000000 in
theorem rextract_96 (P X : Nat → Int) (w : World) (h : InsideP P X 96) (h8 : X 8 = 0) : Calls Try.prog 17 #[net P 96, .agg (a16 X)] w fun e w' => e = .returned (.tuple #[.agg #[.int .u8 (X 12), .int .u8 (X 13), .int .u8 (X 14), .int .u8 (X 15)], .bool true]) ∧ Below w.heap.size w w' := by
  have c20 := fun w => rinside_any P X 96 w true (by simp [h])
  have t8 : (X 8 != 0) = false := by simp [h8]
  clear h h8
  go_enter Try.func17, Try.ntmps17
  go_upto_region 1 with fail
  refine hide_w (Mem.three w 26 23 31 #[.int .u8 (P 0), .int .u8 (P 1), .int .u8 (P 2), .int .u8 (P 3), .int .u8 (P 4), .int .u8 (P 5), .int .u8 (P 6), .int .u8 (P 7), .int .u8 (P 8), .int .u8 (P 9), .int .u8 (P 10), .int .u8 (P 11), .int .u8 (P 12), .int .u8 (P 13), .int .u8 (P 14), .int .u8 (P 15), .int .i64 96] (a16 X) #[.int .u8 0, .int .u8 0, .int .u8 0, .int .u8 0]) (fun w0 M0 => ?_)
  refine wp_region_lit ?_
  refine ly M0 (some 6) rfl (yi_row 0 26 (.tmp 2) rfl rfl rfl rfl Try.underlying26 rfl (by kernel_rfl)) ?_
  try simp only [Act.put, List.setIfInBounds_toArray, List.set_cons_zero, List.set_cons_succ]
  refine ly M0 (some 7) rfl (yi_row 1 23 (.tmp 3) rfl rfl rfl rfl Try.underlying23 rfl (by kernel_rfl)) ?_
  try simp only [Act.put, List.setIfInBounds_toArray, List.set_cons_zero, List.set_cons_succ]
  refine l_call rfl (some 8) rfl (c20 _) (by kernel_rfl) (fun s1 hb1 => ?_)
  have M1 := M0.call hb1
  clear hb1 M0
  try simp only [Act.put, List.setIfInBounds_toArray, List.set_cons_zero, List.set_cons_succ]
  refine lv (by kernel_rfl) (some 9) rfl (v := ?_) ?_ ?_
  rotate_left
  · go_simp; try with_reducible rfl
  try simp only [Act.put, List.setIfInBounds_toArray, List.set_cons_zero, List.set_cons_succ]
  refine lv (by kernel_rfl) (some 10) rfl (v := ?_) ?_ ?_
  rotate_left
  · go_simp; try with_reducible rfl
  try simp only [Act.put, List.setIfInBounds_toArray, List.set_cons_zero, List.set_cons_succ]
  refine lv (by kernel_rfl) (some 11) rfl (v := ?_) ?_ ?_
  rotate_left
  · go_simp; try with_reducible rfl
  try simp only [Act.put, List.setIfInBounds_toArray, List.set_cons_zero, List.set_cons_succ]
  refine ly M1 (some 12) rfl (yi_cell 1 5 (.tmp 11) rfl rfl rfl _ rfl _ Try.underlying5 rfl) ?_
  try simp only [Act.put, List.setIfInBounds_toArray, List.set_cons_zero, List.set_cons_succ]
  refine lv (by kernel_rfl) (some 13) rfl (v := ?_) ?_ ?_
  rotate_left
  · go_simp; try with_reducible rfl
  try simp only [Act.put, List.setIfInBounds_toArray, List.set_cons_zero, List.set_cons_succ]
  refine lv (by kernel_rfl) (some 14) rfl (v := ?_) ?_ ?_
  rotate_left
  · go_simp; try with_reducible rfl
  try simp only [Act.put, List.setIfInBounds_toArray, List.set_cons_zero, List.set_cons_succ]
  refine wpList_nil ?_
  go_upto_region 3 with fail
  refine wp_region_lit ?_
  refine lv (by kernel_rfl) (some 16) rfl (v := ?_) ?_ ?_
  rotate_left
  · go_simp; try with_reducible rfl
  try simp only [Act.put, List.setIfInBounds_toArray, List.set_cons_zero, List.set_cons_succ]
  refine ly M1 (some 17) rfl (yi_cell 0 3 (.tmp 16) rfl rfl rfl _ rfl _ Try.underlying3 rfl) ?_
  try simp only [Act.put, List.setIfInBounds_toArray, List.set_cons_zero, List.set_cons_succ]
  refine wpList_nil ?_
  go_upto_region 4 with fail
  refine wp_region_lit ?_
  refine lv (by kernel_rfl) (some 19) rfl (v := ?_) ?_ ?_
  rotate_left
  · go_simp; try with_reducible rfl
  try simp only [Act.put, List.setIfInBounds_toArray, List.set_cons_zero, List.set_cons_succ]
  refine lv (by kernel_rfl) (some 18) rfl (v := ?_) ?_ ?_
  rotate_left
  · go_simp; try with_reducible rfl
  try simp only [Act.put, List.setIfInBounds_toArray, List.set_cons_zero, List.set_cons_succ]
  refine wpList_nil ?_
  go_upto_region 6 with fail
  refine wp_region_lit ?_
  refine lv (by kernel_rfl) (some 30) rfl (v := ?_) ?_ ?_
  rotate_left
  · go_simp; try with_reducible rfl
  try simp only [Act.put, List.setIfInBounds_toArray, List.set_cons_zero, List.set_cons_succ]
  refine lv (by kernel_rfl) (some 29) rfl (v := ?_) ?_ ?_
  rotate_left
  · go_simp; try with_reducible rfl
  try simp only [Act.put, List.setIfInBounds_toArray, List.set_cons_zero, List.set_cons_succ]
  refine wpList_nil ?_
  go_upto_region 8 with fail
  refine wp_region_lit ?_
  refine lv (by kernel_rfl) (some 41) rfl (v := ?_) ?_ ?_
  rotate_left
  · go_simp; try with_reducible rfl
  try simp only [Act.put, List.setIfInBounds_toArray, List.set_cons_zero, List.set_cons_succ]
  refine lv (by kernel_rfl) (some 40) rfl (v := ?_) ?_ ?_
  rotate_left
  · go_simp; try with_reducible rfl
  try simp only [Act.put, List.setIfInBounds_toArray, List.set_cons_zero, List.set_cons_succ]
  refine wpList_nil ?_
  go_upto_region 10 with fail
  refine wp_region_lit ?_
  refine lv (by kernel_rfl) (some 52) rfl (v := ?_) ?_ ?_
  rotate_left
  · go_simp; try with_reducible rfl
  try simp only [Act.put, List.setIfInBounds_toArray, List.set_cons_zero, List.set_cons_succ]
  refine lv (by kernel_rfl) (some 51) rfl (v := ?_) ?_ ?_
  rotate_left
  · go_simp; try with_reducible rfl
  try simp only [Act.put, List.setIfInBounds_toArray, List.set_cons_zero, List.set_cons_succ]
  refine wpList_nil ?_
  go_upto_region 12 with fail
  refine wp_region_lit ?_
  refine lv (by kernel_rfl) (some 63) rfl (v := ?_) ?_ ?_
  rotate_left
  · go_simp; try with_reducible rfl
  try simp only [Act.put, List.setIfInBounds_toArray, List.set_cons_zero, List.set_cons_succ]
  refine lv (by kernel_rfl) (some 62) rfl (v := ?_) ?_ ?_
  rotate_left
  · go_simp; try with_reducible rfl
  try simp only [Act.put, List.setIfInBounds_toArray, List.set_cons_zero, List.set_cons_succ]
  refine wpList_nil ?_
  go_upto_region 14 with fail
  refine wp_region_lit ?_
  refine lv (by kernel_rfl) (some 73) rfl (v := ?_) ?_ ?_
  rotate_left
  · go_simp; try with_reducible rfl
  try simp only [Act.put, List.setIfInBounds_toArray, List.set_cons_zero, List.set_cons_succ]
  refine ly M1 (some 74) rfl (yi_cell 1 5 (.tmp 73) rfl rfl rfl _ rfl _ Try.underlying5 rfl) ?_
  try simp only [Act.put, List.setIfInBounds_toArray, List.set_cons_zero, List.set_cons_succ]
  refine lv (by kernel_rfl) (some 75) rfl (v := ?_) ?_ ?_
  rotate_left
  · go_simp; try with_reducible rfl
  try simp only [Act.put, List.setIfInBounds_toArray, List.set_cons_zero, List.set_cons_succ]
  refine ly M1 (some 76) rfl (yi_cell 1 5 (.tmp 75) rfl rfl rfl _ rfl _ Try.underlying5 rfl) ?_
  try simp only [Act.put, List.setIfInBounds_toArray, List.set_cons_zero, List.set_cons_succ]
  refine lv (by kernel_rfl) (some 77) rfl (v := ?_) ?_ ?_
  rotate_left
  · go_simp; try with_reducible rfl
  try simp only [Act.put, List.setIfInBounds_toArray, List.set_cons_zero, List.set_cons_succ]
  refine ly M1 (some 78) rfl (yi_cell 1 5 (.tmp 77) rfl rfl rfl _ rfl _ Try.underlying5 rfl) ?_
  try simp only [Act.put, List.setIfInBounds_toArray, List.set_cons_zero, List.set_cons_succ]
  refine lv (by kernel_rfl) (some 79) rfl (v := ?_) ?_ ?_
  rotate_left
  · go_simp; try with_reducible rfl
  try simp only [Act.put, List.setIfInBounds_toArray, List.set_cons_zero, List.set_cons_succ]
  refine ly M1 (some 80) rfl (yi_cell 1 5 (.tmp 79) rfl rfl rfl _ rfl _ Try.underlying5 rfl) ?_
  try simp only [Act.put, List.setIfInBounds_toArray, List.set_cons_zero, List.set_cons_succ]
  refine lv (by kernel_rfl) (some 81) rfl (v := ?_) ?_ ?_
  rotate_left
  · go_simp; try with_reducible rfl
  try simp only [Act.put, List.setIfInBounds_toArray, List.set_cons_zero, List.set_cons_succ]
  refine l_store M1 2 rfl 31 (.tmp 4) _ rfl rfl rfl rfl _ rfl (by kernel_rfl) (by rfl) (by kernel_rfl) _ rfl (fun s2 M2 => ?_)
  clear M1
  try simp only [List.cons_append, List.nil_append, List.set_cons_zero, List.set_cons_succ] at M2
  try simp only [Act.put, List.setIfInBounds_toArray, List.set_cons_zero, List.set_cons_succ]
  refine lv (by kernel_rfl) (some 5) rfl (v := ?_) ?_ ?_
  rotate_left
  · go_simp; try with_reducible rfl
  try simp only [Act.put, List.setIfInBounds_toArray, List.set_cons_zero, List.set_cons_succ]
  refine wpList_nil ?_
  go_wp2_with fail
  exact bodyPost_ret (v := .tuple #[.agg #[.int .u8 (X 12), .int .u8 (X 13), .int .u8 (X 14), .int .u8 (X 15)], .bool true]) (results_cell_tmp rfl (M2.row (i := 2) rfl) _ rfl _ rfl Try.underlying31 rfl (by kernel_rfl)) rfl ⟨rfl, M2.below⟩
theorem rembed_t {P : Nat → Int} {n : Int} (h : RightP P n) (A : Nat → Int) (w : World) : Calls Try.prog 16 #[net P n, .agg (a4 A)] w fun e w' => e = .returned (.tuple #[.agg (a16 (emb P A n)), .bool true]) ∧ Below w.heap.size w w' := by
  have hl := h.1
  unfold LenOk at hl
  rcases hl with rfl | rfl | rfl | rfl | rfl | rfl
  · exact rembed_32 P A w h
  · exact rembed_40 P A w h
  · exact rembed_48 P A w h
  · exact rembed_56 P A w h
  · exact rembed_64 P A w h
  · exact rembed_96 P A w h
theorem rextract_t {P X : Nat → Int} {n : Int} (h : InsideP P X n) (h8 : X 8 = 0) (w : World) : Calls Try.prog 17 #[net P n, .agg (a16 X)] w fun e w' => e = .returned (.tuple #[.agg (a4 (ext X n)), .bool true]) ∧ Below w.heap.size w w' := by
  have hl := h.1.1
  unfold LenOk at hl
  rcases hl with rfl | rfl | rfl | rfl | rfl | rfl
  · exact rextract_32 P X w h h8
  · exact rextract_40 P X w h h8
  · exact rextract_48 P X w h h8
  · exact rextract_56 P X w h h8
  · exact rextract_64 P X w h h8
  · exact rextract_96 P X w h h8
theorem rextract_n {P X : Nat → Int} {n : Int} (h : ¬ (InsideP P X n ∧ X 8 = 0)) (w : World) : Calls Try.prog 17 #[net P n, .agg (a16 X)] w fun e w' => e = .returned (.tuple #[.agg (a4 zero), .bool false]) ∧ Below w.heap.size w w' := by
  by_cases hi : InsideP P X n
  · exact rextract_8 hi (fun h8 => h ⟨hi, h8⟩) w
  · exact rextract_f hi w
end Go.Proofs.Ytafonnelennlhaa
