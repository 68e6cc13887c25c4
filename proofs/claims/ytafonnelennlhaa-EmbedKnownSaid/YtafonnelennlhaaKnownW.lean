/-
  The walk of the law EmbedKnown: it returns true. No condition.
-/
import Derived.Test.YtafonnelennlhaaDoesW
import Derived.Laws.CopyRow
namespace Go.Proofs.Ytafonnelennlhaa
open Go.RowKit
set_option linter.unusedSimpArgs false
set_option linter.unusedVariables false

def bs (j : Nat) : Int := [32, 1, 13, 184, 1, 34, 3, 68].getD j 0
def kp (i j : Nat) : Int := if j < 4 + i then bs j else 0
theorem bs_bytes : Bytes 16 bs := by
  intro j hj
  unfold bs
  match j, hj with
  | 0, _ => decide | 1, _ => decide | 2, _ => decide | 3, _ => decide | 4, _ => decide | 5, _ => decide | 6, _ => decide | 7, _ => decide
  | j + 8, _ => simp
theorem kp_bytes (i : Nat) : Bytes 16 (kp i) := by
  intro j hj
  unfold kp
  split
  · exact bs_bytes j hj
  · omega
theorem kp_right (i : Nat) (n : Int) (hl : LenOk n) (h : n / 8 = 4 + (i : Int)) (hi : i ≤ 4) : RightP (kp i) n := by
  refine ⟨hl, fun j hj hc => ?_⟩
  unfold kp
  rw [if_neg (by omega)]
theorem hide_l {W w : World} {l : List Row} {c : Code} {Q : Exit → Act → World → Prop} {a : Act} (M : Mem W w l) (h : ∀ w', Mem W w' l → c.wp Try.prog Q a w') : c.wp Try.prog Q a w := h w M
theorem hide_r {W w : World} {l : List Row} {C : World → Prop} (M : Mem W w l) (h : ∀ w', Mem W w' l → C w') : C w := h w M
theorem l_slice2 {ops : Array Oper} {Q : Exit → Act → World → Prop} {o : Oper} {rest : List Oper} {a : Act} {w : World} (hw : Region.wanted o (yielded ops a.tmps) = true) (dst : Option Tmp) (hd : o.dst = dst) (cs : Array Value) (t : TypeId) (n m : Nat)
    (hrun : (execOp a.eval o).run Try.prog w = .ok (.value (.slice (some ⟨w.heap.size, 0, none⟩) n m)) (w.alloc (.cells cs t)))
    (h : wpList Try.prog ops Q rest (a.put dst (.slice (some ⟨w.heap.size, 0, none⟩) n m)) (w.alloc (.cells cs t))) : wpList Try.prog ops Q (o :: rest) a w := by
  refine wpList_want hw fun K hK => ?_
  unfold Oper.wp; rw [hrun]
  subst hd
  exact hK _ _ h
section
variable {ops : Array Oper} {Q : Exit → Act → World → Prop} {md : Region.Mode} {S : World → Prop} {i fuel : Nat} {oi : Oper} {rs : List Nat} {listed : Array Bool} {a : Act} {w : World}
theorem br_copy {W : World} {l : List Row} (M : Mem W w l) (k k' : Nat) (ho : ops[i]? = some oi) (hw : Region.wanted oi (yielded ops a.tmps) = true) (dst : Option Tmp) (hdst : oi.dst = dst) (d s : Operand)
    (hop : oi.op = .call { callee := .builtin .copy, args := #[d, s], argTypes := #[27, 27] }) {g g' : Nat} {t t' : TypeId} {cur src : Array Value} (hl : l[k]? = some (g, t, cur)) (hl' : l[k']? = some (g', t', src))
    (dLen dCap sLen sCap : Nat) (hd : a.eval d = .slice (some ⟨g, 0, none⟩) dLen dCap) (hs : a.eval s = .slice (some ⟨g', 0, none⟩) sLen sCap)
    (cs : List Value) (hn : cs.length = Nat.min sLen dLen) (hsrc : src.toList.take cs.length = cs) (hfit : decide (cs.length ≤ cur.size) = true) (h1 : cs.all (·.oneCell') = true)
    (new : Array Value) (hnew : (cs ++ cur.toList.drop cs.length).toArray = new) (l' : List Row) (hs' : l.set k (g, t, new) = l') (hS : ∀ w', Mem W w' l' → S w')
    (h : ∀ w', Mem W w' l' → wpAnyH Try.prog md ops Q S fuel (listed.setIfInBounds i true) (a.put dst (goInt cs.length)) w')
    (hr : AllReadyH Try.prog md ops Q S fuel listed a w rs) : AllReadyH Try.prog md ops Q S fuel listed a w (i :: rs) := by
  refine AllReadyH.cons ho (fun K hK => ?_) hr
  rw [if_pos hw]
  have B := M.row hl
  have B' := M.row hl'
  have hrun := run_copy_row (P := Try.prog) w 27 27 oi.type 5 g 0 dLen dCap ⟨g', 0, none⟩ sLen sCap cur t cs Try.underlying27 (by kernel_rfl) B hn (fun j v hj => by
      have hadd : (⟨g', 0, none⟩ : Addr).add j = ⟨g', j, none⟩ := by unfold Addr.add; split <;> simp_all
      rw [hadd, cell_of_row w g' _ src t' _ B']
      rw [← hsrc] at hj
      rw [List.getElem?_take] at hj
      split at hj
      · simpa using hj
      · cases hj) (by rw [Nat.zero_add]; exact of_decide_eq_true hfit) (fun v hv => List.all_eq_true.1 h1 v hv)
  have hrow : (cur.toList.take 0 ++ cs ++ cur.toList.drop (0 + cs.length)).toArray = new := by rw [← hnew]; simp
  rw [hrow] at hrun
  have M' : Mem W (w.setRow g new) l' := by
    rw [← hs']
    exact M.st hl (Oth.setRow w g new) (setRow_heap w g cur new t _ B)
  unfold Oper.wp
  simp [execOp, hop, resolve, invoke, builtin, hd, hs, hrun, Result.andThen]
  subst hdst
  exact hK.out _ _ (hS _ M') (fun _ => h _ M')
end

set_option maxRecDepth 100000 in
set_option maxHeartbeats 8000000 in
theorem known_walk (w : World) : Calls Try.prog 3 #[] w fun e w' => e = .returned (.bool true) ∧ Below w.heap.size w w' := by
  have hr0 : RightP (kp 0) 32 := kp_right 0 32 (by unfold LenOk; omega) (by decide) (by omega)
  have c10_0 := fun w => embed_t hr0 hA w
  have he0 : ∀ w, (Op.equalIn 10000 23 (.agg (a16 (emb (kp 0) hA 32))) (.agg #[.int .u8 32, .int .u8 1, .int .u8 13, .int .u8 184, .int .u8 192, .int .u8 0, .int .u8 2, .int .u8 33, .int .u8 0, .int .u8 0, .int .u8 0, .int .u8 0, .int .u8 0, .int .u8 0, .int .u8 0, .int .u8 0])).run Try.prog w = .ok true w := fun w => eq16 (X := fun j => [32, 1, 13, 184, 192, 0, 2, 33, 0, 0, 0, 0, 0, 0, 0, 0].getD j 0) (r := true) (by
    simp only [true_iff]; intro j hj
    match j, hj with
    | 0, _ => rfl | 1, _ => rfl | 2, _ => rfl | 3, _ => rfl | 4, _ => rfl | 5, _ => rfl | 6, _ => rfl | 7, _ => rfl | 8, _ => rfl | 9, _ => rfl | 10, _ => rfl | 11, _ => rfl | 12, _ => rfl | 13, _ => rfl | 14, _ => rfl | 15, _ => rfl | j + 16, h => exact absurd h (by omega)) w
  have hr1 : RightP (kp 1) 40 := kp_right 1 40 (by unfold LenOk; omega) (by decide) (by omega)
  have c10_1 := fun w => embed_t hr1 hA w
  have he1 : ∀ w, (Op.equalIn 10000 23 (.agg (a16 (emb (kp 1) hA 40))) (.agg #[.int .u8 32, .int .u8 1, .int .u8 13, .int .u8 184, .int .u8 1, .int .u8 192, .int .u8 0, .int .u8 2, .int .u8 0, .int .u8 33, .int .u8 0, .int .u8 0, .int .u8 0, .int .u8 0, .int .u8 0, .int .u8 0])).run Try.prog w = .ok true w := fun w => eq16 (X := fun j => [32, 1, 13, 184, 1, 192, 0, 2, 0, 33, 0, 0, 0, 0, 0, 0].getD j 0) (r := true) (by
    simp only [true_iff]; intro j hj
    match j, hj with
    | 0, _ => rfl | 1, _ => rfl | 2, _ => rfl | 3, _ => rfl | 4, _ => rfl | 5, _ => rfl | 6, _ => rfl | 7, _ => rfl | 8, _ => rfl | 9, _ => rfl | 10, _ => rfl | 11, _ => rfl | 12, _ => rfl | 13, _ => rfl | 14, _ => rfl | 15, _ => rfl | j + 16, h => exact absurd h (by omega)) w
  have hr2 : RightP (kp 2) 48 := kp_right 2 48 (by unfold LenOk; omega) (by decide) (by omega)
  have c10_2 := fun w => embed_t hr2 hA w
  have he2 : ∀ w, (Op.equalIn 10000 23 (.agg (a16 (emb (kp 2) hA 48))) (.agg #[.int .u8 32, .int .u8 1, .int .u8 13, .int .u8 184, .int .u8 1, .int .u8 34, .int .u8 192, .int .u8 0, .int .u8 0, .int .u8 2, .int .u8 33, .int .u8 0, .int .u8 0, .int .u8 0, .int .u8 0, .int .u8 0])).run Try.prog w = .ok true w := fun w => eq16 (X := fun j => [32, 1, 13, 184, 1, 34, 192, 0, 0, 2, 33, 0, 0, 0, 0, 0].getD j 0) (r := true) (by
    simp only [true_iff]; intro j hj
    match j, hj with
    | 0, _ => rfl | 1, _ => rfl | 2, _ => rfl | 3, _ => rfl | 4, _ => rfl | 5, _ => rfl | 6, _ => rfl | 7, _ => rfl | 8, _ => rfl | 9, _ => rfl | 10, _ => rfl | 11, _ => rfl | 12, _ => rfl | 13, _ => rfl | 14, _ => rfl | 15, _ => rfl | j + 16, h => exact absurd h (by omega)) w
  have hr3 : RightP (kp 3) 56 := kp_right 3 56 (by unfold LenOk; omega) (by decide) (by omega)
  have c10_3 := fun w => embed_t hr3 hA w
  have he3 : ∀ w, (Op.equalIn 10000 23 (.agg (a16 (emb (kp 3) hA 56))) (.agg #[.int .u8 32, .int .u8 1, .int .u8 13, .int .u8 184, .int .u8 1, .int .u8 34, .int .u8 3, .int .u8 192, .int .u8 0, .int .u8 0, .int .u8 2, .int .u8 33, .int .u8 0, .int .u8 0, .int .u8 0, .int .u8 0])).run Try.prog w = .ok true w := fun w => eq16 (X := fun j => [32, 1, 13, 184, 1, 34, 3, 192, 0, 0, 2, 33, 0, 0, 0, 0].getD j 0) (r := true) (by
    simp only [true_iff]; intro j hj
    match j, hj with
    | 0, _ => rfl | 1, _ => rfl | 2, _ => rfl | 3, _ => rfl | 4, _ => rfl | 5, _ => rfl | 6, _ => rfl | 7, _ => rfl | 8, _ => rfl | 9, _ => rfl | 10, _ => rfl | 11, _ => rfl | 12, _ => rfl | 13, _ => rfl | 14, _ => rfl | 15, _ => rfl | j + 16, h => exact absurd h (by omega)) w
  have hr4 : RightP (kp 4) 64 := kp_right 4 64 (by unfold LenOk; omega) (by decide) (by omega)
  have c10_4 := fun w => embed_t hr4 hA w
  have he4 : ∀ w, (Op.equalIn 10000 23 (.agg (a16 (emb (kp 4) hA 64))) (.agg #[.int .u8 32, .int .u8 1, .int .u8 13, .int .u8 184, .int .u8 1, .int .u8 34, .int .u8 3, .int .u8 68, .int .u8 0, .int .u8 192, .int .u8 0, .int .u8 2, .int .u8 33, .int .u8 0, .int .u8 0, .int .u8 0])).run Try.prog w = .ok true w := fun w => eq16 (X := fun j => [32, 1, 13, 184, 1, 34, 3, 68, 0, 192, 0, 2, 33, 0, 0, 0].getD j 0) (r := true) (by
    simp only [true_iff]; intro j hj
    match j, hj with
    | 0, _ => rfl | 1, _ => rfl | 2, _ => rfl | 3, _ => rfl | 4, _ => rfl | 5, _ => rfl | 6, _ => rfl | 7, _ => rfl | 8, _ => rfl | 9, _ => rfl | 10, _ => rfl | 11, _ => rfl | 12, _ => rfl | 13, _ => rfl | 14, _ => rfl | 15, _ => rfl | j + 16, h => exact absurd h (by omega)) w
  have hni : ¬ (InsideP wA bs 96 ∧ bs 8 = 0) := fun h => by have := h.1.2 0 (by decide); revert this; decide
  have c12 := fun w => extract_n bytes_w bs_bytes hni w
  have k1 : ¬ RightP bs 33 := fun h => by have := h.1; unfold LenOk at this; omega
  have k2 : ¬ RightP bs 32 := fun h => by have := h.2 4 (by omega) (.inl (by decide)); revert this; decide
  have k3 : ¬ RightP (fun j => if j = 8 then 1 else 0) 96 := fun h => by have := h.2 8 (by omega) (.inr rfl); simp at this
  have k4 : RightP zero 96 := ⟨by unfold LenOk; omega, fun j hj h => rfl⟩
  have c15_1 : ∀ w, Calls Try.prog 15 #[.agg #[.int .u8 (bs 0), .int .u8 (bs 1), .int .u8 (bs 2), .int .u8 (bs 3), .int .u8 (bs 4), .int .u8 (bs 5), .int .u8 (bs 6), .int .u8 (bs 7), .int .u8 (bs 8), .int .u8 (bs 9), .int .u8 (bs 10), .int .u8 (bs 11), .int .u8 (bs 12), .int .u8 (bs 13), .int .u8 (bs 14), .int .u8 (bs 15), .int .i64 33]] w fun e w' => e = .returned (.bool false) ∧ Below w.heap.size w w' := fun w => right_f bs 33 w k1
  have c15_2 : ∀ w, Calls Try.prog 15 #[.agg #[.int .u8 (bs 0), .int .u8 (bs 1), .int .u8 (bs 2), .int .u8 (bs 3), .int .u8 (bs 4), .int .u8 (bs 5), .int .u8 (bs 6), .int .u8 (bs 7), .int .u8 (bs 8), .int .u8 (bs 9), .int .u8 (bs 10), .int .u8 (bs 11), .int .u8 (bs 12), .int .u8 (bs 13), .int .u8 (bs 14), .int .u8 (bs 15), .int .i64 32]] w fun e w' => e = .returned (.bool false) ∧ Below w.heap.size w w' := fun w => right_f bs 32 w k2
  have c15_3 : ∀ w, Calls Try.prog 15 #[.agg #[.int .u8 0, .int .u8 0, .int .u8 0, .int .u8 0, .int .u8 0, .int .u8 0, .int .u8 0, .int .u8 0, .int .u8 1, .int .u8 0, .int .u8 0, .int .u8 0, .int .u8 0, .int .u8 0, .int .u8 0, .int .u8 0, .int .i64 96]] w fun e w' => e = .returned (.bool false) ∧ Below w.heap.size w w' := fun w => right_f (fun j => if j = 8 then 1 else 0) 96 w k3
  have c15_4 : ∀ w, Calls Try.prog 15 #[.agg #[.int .u8 0, .int .u8 0, .int .u8 0, .int .u8 0, .int .u8 0, .int .u8 0, .int .u8 0, .int .u8 0, .int .u8 0, .int .u8 0, .int .u8 0, .int .u8 0, .int .u8 0, .int .u8 0, .int .u8 0, .int .u8 0, .int .i64 96]] w fun e w' => e = .returned (.bool true) ∧ Below w.heap.size w w' := fun w => right_t zero 96 w k4
  clear hni k1 k2 k3 k4 hr0 hr1 hr2 hr3 hr4
  go_enter Try.func3, Try.ntmps3
  go_upto_region 1 with fail
  refine hide_l (Mem.start w) (fun w0 M0 => ?_)
  refine wp_region_lit ?_
  refine lv (by kernel_rfl) (some 9) rfl (v := ?_) ?_ ?_
  rotate_left
  · go_simp; (try simp only [IntKind.wrap_i64, Int.reduceAdd, Int.reduceSub, Int.reduceMul, Int.reduceMod, Int.reducePow, Int.reduceNeg]); try with_reducible rfl
  try simp only [Act.put, List.setIfInBounds_toArray, List.set_cons_zero, List.set_cons_succ]
  refine l_alloc (by kernel_rfl) (some 1) rfl #[.int .u8 0, .int .u8 0, .int .u8 0, .int .u8 0, .int .u8 0, .int .u8 0, .int .u8 0, .int .u8 0, .int .u8 0, .int .u8 0, .int .u8 0, .int .u8 0, .int .u8 0, .int .u8 0, .int .u8 0, .int .u8 0] 23 (by kernel_rfl) ?_
  have MA := M0.new rfl 23 #[.int .u8 0, .int .u8 0, .int .u8 0, .int .u8 0, .int .u8 0, .int .u8 0, .int .u8 0, .int .u8 0, .int .u8 0, .int .u8 0, .int .u8 0, .int .u8 0, .int .u8 0, .int .u8 0, .int .u8 0, .int .u8 0]
  clear M0
  try simp only [List.cons_append, List.nil_append, List.set_cons_zero, List.set_cons_succ] at MA
  try simp only [Act.put, List.setIfInBounds_toArray, List.set_cons_zero, List.set_cons_succ]
  refine l_store MA 0 (by kernel_rfl) 23 (.tmp 1) _ rfl rfl rfl rfl (a16 bs) rfl (by kernel_rfl) (by rfl) (by kernel_rfl) _ rfl (fun wb MB => ?_)
  clear MA
  try simp only [List.cons_append, List.nil_append, List.set_cons_zero, List.set_cons_succ] at MB
  try simp only [Act.put, List.setIfInBounds_toArray, List.set_cons_zero, List.set_cons_succ]
  refine wpList_nil ?_
  go_upto_region 2 with fail
  refine wp_region_lit ?_
  refine lv (by kernel_rfl) (some 10) rfl (v := ?_) ?_ ?_
  rotate_left
  · go_simp; (try simp only [IntKind.wrap_i64, Int.reduceAdd, Int.reduceSub, Int.reduceMul, Int.reduceMod, Int.reducePow, Int.reduceNeg]); try with_reducible rfl
  try simp only [Act.put, List.setIfInBounds_toArray, List.set_cons_zero, List.set_cons_succ]
  refine lv (by kernel_rfl) (some 11) rfl (v := ?_) ?_ ?_
  rotate_left
  · go_simp; (try simp only [IntKind.wrap_i64, Int.reduceAdd, Int.reduceSub, Int.reduceMul, Int.reduceMod, Int.reducePow, Int.reduceNeg]); try with_reducible rfl
  try simp only [Act.put, List.setIfInBounds_toArray, List.set_cons_zero, List.set_cons_succ]
  refine lv (by kernel_rfl) (some 12) rfl (v := ?_) ?_ ?_
  rotate_left
  · go_simp; (try simp only [IntKind.wrap_i64, Int.reduceAdd, Int.reduceSub, Int.reduceMul, Int.reduceMod, Int.reducePow, Int.reduceNeg]); try with_reducible rfl
  try simp only [Act.put, List.setIfInBounds_toArray, List.set_cons_zero, List.set_cons_succ]
  refine lv (by kernel_rfl) (some 13) rfl (v := ?_) ?_ ?_
  rotate_left
  · go_simp; (try simp only [IntKind.wrap_i64, Int.reduceAdd, Int.reduceSub, Int.reduceMul, Int.reduceMod, Int.reducePow, Int.reduceNeg]); try with_reducible rfl
  try simp only [Act.put, List.setIfInBounds_toArray, List.set_cons_zero, List.set_cons_succ]
  refine lv (by kernel_rfl) (some 14) rfl (v := ?_) ?_ ?_
  rotate_left
  · go_simp; (try simp only [IntKind.wrap_i64, Int.reduceAdd, Int.reduceSub, Int.reduceMul, Int.reduceMod, Int.reducePow, Int.reduceNeg]); try with_reducible rfl
  try simp only [Act.put, List.setIfInBounds_toArray, List.set_cons_zero, List.set_cons_succ]
  refine l_slice2 (by kernel_rfl) (some 15) rfl #[.int .u8 32, .int .u8 1, .int .u8 13, .int .u8 184, .int .u8 192, .int .u8 0, .int .u8 2, .int .u8 33, .int .u8 0, .int .u8 0, .int .u8 0, .int .u8 0, .int .u8 0, .int .u8 0, .int .u8 0, .int .u8 0, .int .u8 32, .int .u8 1, .int .u8 13, .int .u8 184, .int .u8 1, .int .u8 192, .int .u8 0, .int .u8 2, .int .u8 0, .int .u8 33, .int .u8 0, .int .u8 0, .int .u8 0, .int .u8 0, .int .u8 0, .int .u8 0, .int .u8 32, .int .u8 1, .int .u8 13, .int .u8 184, .int .u8 1, .int .u8 34, .int .u8 192, .int .u8 0, .int .u8 0, .int .u8 2, .int .u8 33, .int .u8 0, .int .u8 0, .int .u8 0, .int .u8 0, .int .u8 0, .int .u8 32, .int .u8 1, .int .u8 13, .int .u8 184, .int .u8 1, .int .u8 34, .int .u8 3, .int .u8 192, .int .u8 0, .int .u8 0, .int .u8 2, .int .u8 33, .int .u8 0, .int .u8 0, .int .u8 0, .int .u8 0, .int .u8 32, .int .u8 1, .int .u8 13, .int .u8 184, .int .u8 1, .int .u8 34, .int .u8 3, .int .u8 68, .int .u8 0, .int .u8 192, .int .u8 0, .int .u8 2, .int .u8 33, .int .u8 0, .int .u8 0, .int .u8 0] 23 5 5 (by kernel_rfl) ?_
  have MT := MB.new rfl 23 #[.int .u8 32, .int .u8 1, .int .u8 13, .int .u8 184, .int .u8 192, .int .u8 0, .int .u8 2, .int .u8 33, .int .u8 0, .int .u8 0, .int .u8 0, .int .u8 0, .int .u8 0, .int .u8 0, .int .u8 0, .int .u8 0, .int .u8 32, .int .u8 1, .int .u8 13, .int .u8 184, .int .u8 1, .int .u8 192, .int .u8 0, .int .u8 2, .int .u8 0, .int .u8 33, .int .u8 0, .int .u8 0, .int .u8 0, .int .u8 0, .int .u8 0, .int .u8 0, .int .u8 32, .int .u8 1, .int .u8 13, .int .u8 184, .int .u8 1, .int .u8 34, .int .u8 192, .int .u8 0, .int .u8 0, .int .u8 2, .int .u8 33, .int .u8 0, .int .u8 0, .int .u8 0, .int .u8 0, .int .u8 0, .int .u8 32, .int .u8 1, .int .u8 13, .int .u8 184, .int .u8 1, .int .u8 34, .int .u8 3, .int .u8 192, .int .u8 0, .int .u8 0, .int .u8 2, .int .u8 33, .int .u8 0, .int .u8 0, .int .u8 0, .int .u8 0, .int .u8 32, .int .u8 1, .int .u8 13, .int .u8 184, .int .u8 1, .int .u8 34, .int .u8 3, .int .u8 68, .int .u8 0, .int .u8 192, .int .u8 0, .int .u8 2, .int .u8 33, .int .u8 0, .int .u8 0, .int .u8 0]
  clear MB
  try simp only [List.cons_append, List.nil_append, List.set_cons_zero, List.set_cons_succ] at MT
  try simp only [Act.put, List.setIfInBounds_toArray, List.set_cons_zero, List.set_cons_succ]
  refine lv (by kernel_rfl) (some 2) rfl (v := ?_) ?_ ?_
  rotate_left
  · go_simp; (try simp only [IntKind.wrap_i64, Int.reduceAdd, Int.reduceSub, Int.reduceMul, Int.reduceMod, Int.reducePow, Int.reduceNeg]); try with_reducible rfl
  try simp only [Act.put, List.setIfInBounds_toArray, List.set_cons_zero, List.set_cons_succ]
  refine wpList_nil ?_
  go_upto_region 3 with fail
  refine wp_region_lit ?_
  refine lv (by kernel_rfl) (some 3) rfl (v := ?_) ?_ ?_
  rotate_left
  · go_simp; (try simp only [IntKind.wrap_i64, Int.reduceAdd, Int.reduceSub, Int.reduceMul, Int.reduceMod, Int.reducePow, Int.reduceNeg]); try with_reducible rfl
  try simp only [Act.put, List.setIfInBounds_toArray, List.set_cons_zero, List.set_cons_succ]
  refine wpList_nil ?_
  go_wp2_with fail
  refine hide_l MT (fun wr0 MR0 => ?_)
  clear MT
  refine wp_loop_rounds 6 ?_
  rw [rounds_succ]
  go_upto_region 4 with fail
  refine wp_region_lit ?_
  refine lv (by kernel_rfl) (some 16) rfl (v := ?_) ?_ ?_
  rotate_left
  · go_simp; (try simp only [IntKind.wrap_i64, Int.reduceAdd, Int.reduceSub, Int.reduceMul, Int.reduceMod, Int.reducePow, Int.reduceNeg]); try with_reducible rfl
  try simp only [Act.put, List.setIfInBounds_toArray, List.set_cons_zero, List.set_cons_succ]
  refine lv (by kernel_rfl) (some 17) rfl (v := ?_) ?_ ?_
  rotate_left
  · go_simp; (try simp only [IntKind.wrap_i64, Int.reduceAdd, Int.reduceSub, Int.reduceMul, Int.reduceMod, Int.reducePow, Int.reduceNeg]); try with_reducible rfl
  try simp only [Act.put, List.setIfInBounds_toArray, List.set_cons_zero, List.set_cons_succ]
  refine wpList_nil ?_
  go_upto_region 6 with fail
  refine wp_region_lit ?_
  refine lv (by kernel_rfl) (some 20) rfl (v := ?_) ?_ ?_
  rotate_left
  · go_simp; (try simp only [IntKind.wrap_i64, Int.reduceAdd, Int.reduceSub, Int.reduceMul, Int.reduceMod, Int.reducePow, Int.reduceNeg]); try with_reducible rfl
  try simp only [Act.put, List.setIfInBounds_toArray, List.set_cons_zero, List.set_cons_succ]
  refine lv (by kernel_rfl) (some 21) rfl (v := ?_) ?_ ?_
  rotate_left
  · go_simp; (try simp only [IntKind.wrap_i64, Int.reduceAdd, Int.reduceSub, Int.reduceMul, Int.reduceMod, Int.reducePow, Int.reduceNeg]); try with_reducible rfl
  try simp only [Act.put, List.setIfInBounds_toArray, List.set_cons_zero, List.set_cons_succ]
  refine lv (by kernel_rfl) (some 22) rfl (v := ?_) ?_ ?_
  rotate_left
  · go_simp; (try simp only [IntKind.wrap_i64, Int.reduceAdd, Int.reduceSub, Int.reduceMul, Int.reduceMod, Int.reducePow, Int.reduceNeg]); try with_reducible rfl
  try simp only [Act.put, List.setIfInBounds_toArray, List.set_cons_zero, List.set_cons_succ]
  refine lv (by kernel_rfl) (some 23) rfl (v := ?_) ?_ ?_
  rotate_left
  · go_simp; (try simp only [IntKind.wrap_i64, Int.reduceAdd, Int.reduceSub, Int.reduceMul, Int.reduceMod, Int.reducePow, Int.reduceNeg]); try with_reducible rfl
  try simp only [Act.put, List.setIfInBounds_toArray, List.set_cons_zero, List.set_cons_succ]
  refine l_alloc (by kernel_rfl) (some 4) rfl #[.int .u8 0, .int .u8 0, .int .u8 0, .int .u8 0, .int .u8 0, .int .u8 0, .int .u8 0, .int .u8 0, .int .u8 0, .int .u8 0, .int .u8 0, .int .u8 0, .int .u8 0, .int .u8 0, .int .u8 0, .int .u8 0, .int .i64 0] 26 (by kernel_rfl) ?_
  have MP0 := MR0.new rfl 26 #[.int .u8 0, .int .u8 0, .int .u8 0, .int .u8 0, .int .u8 0, .int .u8 0, .int .u8 0, .int .u8 0, .int .u8 0, .int .u8 0, .int .u8 0, .int .u8 0, .int .u8 0, .int .u8 0, .int .u8 0, .int .u8 0, .int .i64 0]
  clear MR0
  try simp only [List.cons_append, List.nil_append, List.set_cons_zero, List.set_cons_succ] at MP0
  try simp only [Act.put, List.setIfInBounds_toArray, List.set_cons_zero, List.set_cons_succ]
  refine l_store MP0 2 (by kernel_rfl) 26 (.tmp 4) _ rfl rfl rfl rfl #[.int .u8 0, .int .u8 0, .int .u8 0, .int .u8 0, .int .u8 0, .int .u8 0, .int .u8 0, .int .u8 0, .int .u8 0, .int .u8 0, .int .u8 0, .int .u8 0, .int .u8 0, .int .u8 0, .int .u8 0, .int .u8 0, .int .i64 32] rfl (by kernel_rfl) (by rfl) (by kernel_rfl) _ rfl (fun wp0 MQ0 => ?_)
  clear MP0
  try simp only [List.cons_append, List.nil_append, List.set_cons_zero, List.set_cons_succ] at MQ0
  try simp only [Act.put, List.setIfInBounds_toArray, List.set_cons_zero, List.set_cons_succ]
  refine wpList_nil ?_
  go_upto_region 7 with fail
  have C7 : wp0.drew.cell? ⟨wr0.heap.size, 16, none⟩ = some (.int .i64 32) := (MQ0.row (i := 2) rfl).cell rfl
  refine wp_region_held_drew (S := fun w' => w'.cell? ⟨wr0.heap.size, 16, none⟩ = some (.int .i64 32)) (by kernel_rfl) C7 (fun _ => ?_)
  have MD0 := MQ0.drew
  clear MQ0
  refine tk (i := 0) (v := ?_) rfl (some 24) rfl (by kernel_rfl) (by kernel_rfl) (by kernel_rfl) (fun _ _ _ h => h) (Or.inl ⟨by kernel_rfl, ?_⟩) C7 ?_
  rotate_left
  · intro w hS; (try dsimp only at hS); go_simp; (try simp only [IntKind.wrap_i64, Int.reduceAdd, Int.reduceSub, Int.reduceMul, Int.reduceMod, Int.reducePow, Int.reduceNeg]); try with_reducible rfl
  try simp only [Act.put, List.setIfInBounds_toArray, List.set_cons_zero, List.set_cons_succ]
  refine tk (i := 1) (v := ?_) rfl (some 25) rfl (by kernel_rfl) (by kernel_rfl) (by kernel_rfl) (fun _ _ _ h => h) (Or.inl ⟨by kernel_rfl, ?_⟩) C7 ?_
  rotate_left
  · intro w hS; (try dsimp only at hS); go_simp; (try simp only [IntKind.wrap_i64, Int.reduceAdd, Int.reduceSub, Int.reduceMul, Int.reduceMod, Int.reducePow, Int.reduceNeg]); try with_reducible rfl
  try simp only [Act.put, List.setIfInBounds_toArray, List.set_cons_zero, List.set_cons_succ]
  refine tk (i := 2) (v := ?_) rfl (some 26) rfl (by kernel_rfl) (by kernel_rfl) (by kernel_rfl) (fun _ _ _ h => h) (Or.inl ⟨by kernel_rfl, ?_⟩) C7 ?_
  rotate_left
  · intro w hS; (try dsimp only at hS); go_simp; (try simp only [IntKind.wrap_i64, Int.reduceAdd, Int.reduceSub, Int.reduceMul, Int.reduceMod, Int.reducePow, Int.reduceNeg]); try with_reducible rfl
  try simp only [Act.put, List.setIfInBounds_toArray, List.set_cons_zero, List.set_cons_succ]
  refine tk (i := 3) (v := ?_) rfl (some 27) rfl (by kernel_rfl) (by kernel_rfl) (by kernel_rfl) (fun _ _ _ h => h) (Or.inl ⟨by kernel_rfl, ?_⟩) C7 ?_
  rotate_left
  · intro w hS; (try dsimp only at hS); go_simp; (try simp only [IntKind.wrap_i64, Int.reduceAdd, Int.reduceSub, Int.reduceMul, Int.reduceMod, Int.reducePow, Int.reduceNeg]); try with_reducible rfl
  try simp only [Act.put, List.setIfInBounds_toArray, List.set_cons_zero, List.set_cons_succ]
  refine tk (i := 4) (v := ?_) rfl (some 28) rfl (by kernel_rfl) (by kernel_rfl) (by kernel_rfl) (fun _ _ _ h => h) (Or.inl ⟨by kernel_rfl, ?_⟩) C7 ?_
  rotate_left
  · intro w hS; (try dsimp only at hS); go_simp; (try simp only [IntKind.wrap_i64, Int.reduceAdd, Int.reduceSub, Int.reduceMul, Int.reduceMod, Int.reducePow, Int.reduceNeg]); try with_reducible rfl
  try simp only [Act.put, List.setIfInBounds_toArray, List.set_cons_zero, List.set_cons_succ]
  refine tk (i := 5) (v := ?_) rfl (some 29) rfl (by kernel_rfl) (by kernel_rfl) (by kernel_rfl) (fun _ _ _ h => h) (Or.inl ⟨by kernel_rfl, ?_⟩) C7 ?_
  rotate_left
  · intro w hS; (try dsimp only at hS); go_simp; (try simp only [IntKind.wrap_i64, Int.reduceAdd, Int.reduceSub, Int.reduceMul, Int.reduceMod, Int.reducePow, Int.reduceNeg]); try with_reducible rfl
  try simp only [Act.put, List.setIfInBounds_toArray, List.set_cons_zero, List.set_cons_succ]
  refine wpAnyH_ready (rs := [6]) (by kernel_rfl) (by simp) ?_
  refine br_copy MD0 2 0 rfl (by kernel_rfl) (some 30) rfl (.tmp 28) (.tmp 29) rfl rfl rfl 4 16 16 16 rfl rfl [.int .u8 (bs 0), .int .u8 (bs 1), .int .u8 (bs 2), .int .u8 (bs 3)] rfl rfl (by kernel_rfl) (by kernel_rfl) (netC (kp 0) 32) (by kernel_rfl) _ rfl (fun w' M' => (M'.row (i := 2) rfl).cell rfl) (fun wq0 MC0 => ?_) AllReadyH.nil
  clear C7
  clear MD0
  try simp only [List.cons_append, List.nil_append, List.set_cons_zero, List.set_cons_succ] at MC0
  try simp only [Act.put, List.setIfInBounds_toArray, List.set_cons_zero, List.set_cons_succ]
  refine wpAnyH_done (by kernel_rfl) ?_ _
  go_upto_region 8 with fail
  go_cut [5, 6] (fun s t wz => ∃ g, s = .pointer (some ⟨g, 0, none⟩) ∧ t = .bool true ∧ Mem w wz [(w0.heap.size, 23, a16 bs), (wb.heap.size, 23, #[.int .u8 32, .int .u8 1, .int .u8 13, .int .u8 184, .int .u8 192, .int .u8 0, .int .u8 2, .int .u8 33, .int .u8 0, .int .u8 0, .int .u8 0, .int .u8 0, .int .u8 0, .int .u8 0, .int .u8 0, .int .u8 0, .int .u8 32, .int .u8 1, .int .u8 13, .int .u8 184, .int .u8 1, .int .u8 192, .int .u8 0, .int .u8 2, .int .u8 0, .int .u8 33, .int .u8 0, .int .u8 0, .int .u8 0, .int .u8 0, .int .u8 0, .int .u8 0, .int .u8 32, .int .u8 1, .int .u8 13, .int .u8 184, .int .u8 1, .int .u8 34, .int .u8 192, .int .u8 0, .int .u8 0, .int .u8 2, .int .u8 33, .int .u8 0, .int .u8 0, .int .u8 0, .int .u8 0, .int .u8 0, .int .u8 32, .int .u8 1, .int .u8 13, .int .u8 184, .int .u8 1, .int .u8 34, .int .u8 3, .int .u8 192, .int .u8 0, .int .u8 0, .int .u8 2, .int .u8 33, .int .u8 0, .int .u8 0, .int .u8 0, .int .u8 0, .int .u8 32, .int .u8 1, .int .u8 13, .int .u8 184, .int .u8 1, .int .u8 34, .int .u8 3, .int .u8 68, .int .u8 0, .int .u8 192, .int .u8 0, .int .u8 2, .int .u8 33, .int .u8 0, .int .u8 0, .int .u8 0]), (wr0.heap.size, 26, netC (kp 0) 32), (g, 23, (a16 (emb (kp 0) hA 32)))])
  case first =>
    refine wp_region_held_drew (S := fun w' => Mem w w' [(w0.heap.size, 23, a16 bs), (wb.heap.size, 23, #[.int .u8 32, .int .u8 1, .int .u8 13, .int .u8 184, .int .u8 192, .int .u8 0, .int .u8 2, .int .u8 33, .int .u8 0, .int .u8 0, .int .u8 0, .int .u8 0, .int .u8 0, .int .u8 0, .int .u8 0, .int .u8 0, .int .u8 32, .int .u8 1, .int .u8 13, .int .u8 184, .int .u8 1, .int .u8 192, .int .u8 0, .int .u8 2, .int .u8 0, .int .u8 33, .int .u8 0, .int .u8 0, .int .u8 0, .int .u8 0, .int .u8 0, .int .u8 0, .int .u8 32, .int .u8 1, .int .u8 13, .int .u8 184, .int .u8 1, .int .u8 34, .int .u8 192, .int .u8 0, .int .u8 0, .int .u8 2, .int .u8 33, .int .u8 0, .int .u8 0, .int .u8 0, .int .u8 0, .int .u8 0, .int .u8 32, .int .u8 1, .int .u8 13, .int .u8 184, .int .u8 1, .int .u8 34, .int .u8 3, .int .u8 192, .int .u8 0, .int .u8 0, .int .u8 2, .int .u8 33, .int .u8 0, .int .u8 0, .int .u8 0, .int .u8 0, .int .u8 32, .int .u8 1, .int .u8 13, .int .u8 184, .int .u8 1, .int .u8 34, .int .u8 3, .int .u8 68, .int .u8 0, .int .u8 192, .int .u8 0, .int .u8 2, .int .u8 33, .int .u8 0, .int .u8 0, .int .u8 0]), (wr0.heap.size, 26, netC (kp 0) 32)]) (by kernel_rfl) MC0.drew (fun M5 => ?_)
    refine tk (i := 0) rfl (some 32) rfl (by kernel_rfl) (by kernel_rfl) (by kernel_rfl) (fun _ _ _ h => h) (yi_row 2 26 (.tmp 4) rfl rfl rfl rfl Try.underlying26 rfl (by kernel_rfl)) M5 ?_
    try simp only [Act.put, List.setIfInBounds_toArray, List.set_cons_zero, List.set_cons_succ]
    refine wpAnyH_ready (rs := [1, 6]) (by kernel_rfl) (by simp) ?_
    refine br_call rfl rfl (some 33) rfl (host_any _) (by kernel_rfl) (fun w' hb => M5.call hb) (fun y1 hb1 => ?_) ?_
    · have yn1 := M5.call hb1
      clear hb1
      try simp only [Act.put, List.setIfInBounds_toArray, List.set_cons_zero, List.set_cons_succ]
      refine wpAnyH_ready (rs := [2, 6]) (by kernel_rfl) (by simp) ?_
      refine br_call rfl rfl (some 34) rfl (c10_0 _) (by kernel_rfl) (fun w' hb => yn1.call hb) (fun y2 hb2 => ?_) ?_
      · have yn2 := yn1.call hb2
        clear hb2
        try simp only [Act.put, List.setIfInBounds_toArray, List.set_cons_zero, List.set_cons_succ]
        refine tk (i := 3) (v := ?_) rfl (some 31) rfl (by kernel_rfl) (by kernel_rfl) (by kernel_rfl) (fun _ _ _ h => h) (Or.inl ⟨by rfl, ?_⟩) yn2 ?_
        rotate_left
        · intro w hS; go_simp; try with_reducible rfl
        try simp only [Act.put, List.setIfInBounds_toArray, List.set_cons_zero, List.set_cons_succ]
        refine tk (i := 4) (v := ?_) rfl (some 35) rfl (by kernel_rfl) (by kernel_rfl) (by kernel_rfl) (fun _ _ _ h => h) (Or.inl ⟨by rfl, ?_⟩) yn2 ?_
        rotate_left
        · intro w hS; go_simp; try with_reducible rfl
        try simp only [Act.put, List.setIfInBounds_toArray, List.set_cons_zero, List.set_cons_succ]
        refine tk (i := 5) (v := ?_) rfl (some 36) rfl (by kernel_rfl) (by kernel_rfl) (by kernel_rfl) (fun _ _ _ h => h) (Or.inl ⟨by rfl, ?_⟩) yn2 ?_
        rotate_left
        · intro w hS; go_simp; try with_reducible rfl
        try simp only [Act.put, List.setIfInBounds_toArray, List.set_cons_zero, List.set_cons_succ]
        refine wpAnyH_ready (rs := [6]) (by kernel_rfl) (by simp) ?_
        refine br_alloc rfl rfl (some 5) rfl #[.int .u8 0, .int .u8 0, .int .u8 0, .int .u8 0, .int .u8 0, .int .u8 0, .int .u8 0, .int .u8 0, .int .u8 0, .int .u8 0, .int .u8 0, .int .u8 0, .int .u8 0, .int .u8 0, .int .u8 0, .int .u8 0] 23 (by kernel_rfl) (yn2.alloc _) ?_ ?_
        · have yn3 := yn2.new rfl 23 #[.int .u8 0, .int .u8 0, .int .u8 0, .int .u8 0, .int .u8 0, .int .u8 0, .int .u8 0, .int .u8 0, .int .u8 0, .int .u8 0, .int .u8 0, .int .u8 0, .int .u8 0, .int .u8 0, .int .u8 0, .int .u8 0]
          try simp only [Act.put, List.setIfInBounds_toArray, List.set_cons_zero, List.set_cons_succ]
          refine wpAnyH_ready (rs := [7]) (by kernel_rfl) (by simp) ?_
          refine br_store yn3 3 rfl rfl 23 (.tmp 5) _ rfl rfl rfl rfl (a16 (emb (kp 0) hA 32)) rfl (by kernel_rfl) rfl (by kernel_rfl) _ rfl (fun w' M' => Mem.init (l := [(w0.heap.size, 23, a16 bs), (wb.heap.size, 23, #[.int .u8 32, .int .u8 1, .int .u8 13, .int .u8 184, .int .u8 192, .int .u8 0, .int .u8 2, .int .u8 33, .int .u8 0, .int .u8 0, .int .u8 0, .int .u8 0, .int .u8 0, .int .u8 0, .int .u8 0, .int .u8 0, .int .u8 32, .int .u8 1, .int .u8 13, .int .u8 184, .int .u8 1, .int .u8 192, .int .u8 0, .int .u8 2, .int .u8 0, .int .u8 33, .int .u8 0, .int .u8 0, .int .u8 0, .int .u8 0, .int .u8 0, .int .u8 0, .int .u8 32, .int .u8 1, .int .u8 13, .int .u8 184, .int .u8 1, .int .u8 34, .int .u8 192, .int .u8 0, .int .u8 0, .int .u8 2, .int .u8 33, .int .u8 0, .int .u8 0, .int .u8 0, .int .u8 0, .int .u8 0, .int .u8 32, .int .u8 1, .int .u8 13, .int .u8 184, .int .u8 1, .int .u8 34, .int .u8 3, .int .u8 192, .int .u8 0, .int .u8 0, .int .u8 2, .int .u8 33, .int .u8 0, .int .u8 0, .int .u8 0, .int .u8 0, .int .u8 32, .int .u8 1, .int .u8 13, .int .u8 184, .int .u8 1, .int .u8 34, .int .u8 3, .int .u8 68, .int .u8 0, .int .u8 192, .int .u8 0, .int .u8 2, .int .u8 33, .int .u8 0, .int .u8 0, .int .u8 0]), (wr0.heap.size, 26, netC (kp 0) 32)]) M') (fun y4 yn4 => ?_) ?_
          · try simp only [Act.put, List.setIfInBounds_toArray, List.set_cons_zero, List.set_cons_succ]
            refine tk (i := 8) (v := ?_) rfl (some 6) rfl (by kernel_rfl) (by kernel_rfl) (by kernel_rfl) (fun _ _ _ h => h) (Or.inl ⟨by rfl, ?_⟩) (Mem.init (l := [(w0.heap.size, 23, a16 bs), (wb.heap.size, 23, #[.int .u8 32, .int .u8 1, .int .u8 13, .int .u8 184, .int .u8 192, .int .u8 0, .int .u8 2, .int .u8 33, .int .u8 0, .int .u8 0, .int .u8 0, .int .u8 0, .int .u8 0, .int .u8 0, .int .u8 0, .int .u8 0, .int .u8 32, .int .u8 1, .int .u8 13, .int .u8 184, .int .u8 1, .int .u8 192, .int .u8 0, .int .u8 2, .int .u8 0, .int .u8 33, .int .u8 0, .int .u8 0, .int .u8 0, .int .u8 0, .int .u8 0, .int .u8 0, .int .u8 32, .int .u8 1, .int .u8 13, .int .u8 184, .int .u8 1, .int .u8 34, .int .u8 192, .int .u8 0, .int .u8 0, .int .u8 2, .int .u8 33, .int .u8 0, .int .u8 0, .int .u8 0, .int .u8 0, .int .u8 0, .int .u8 32, .int .u8 1, .int .u8 13, .int .u8 184, .int .u8 1, .int .u8 34, .int .u8 3, .int .u8 192, .int .u8 0, .int .u8 0, .int .u8 2, .int .u8 33, .int .u8 0, .int .u8 0, .int .u8 0, .int .u8 0, .int .u8 32, .int .u8 1, .int .u8 13, .int .u8 184, .int .u8 1, .int .u8 34, .int .u8 3, .int .u8 68, .int .u8 0, .int .u8 192, .int .u8 0, .int .u8 2, .int .u8 33, .int .u8 0, .int .u8 0, .int .u8 0]), (wr0.heap.size, 26, netC (kp 0) 32)]) yn4) ?_
            rotate_left
            · intro w hS; go_simp; try with_reducible rfl
            try simp only [Act.put, List.setIfInBounds_toArray, List.set_cons_zero, List.set_cons_succ]
            refine wpAnyH_done (by kernel_rfl) ?_ _
            go_wp2_with fail
            go_meet
            case rel => exact ⟨_, rfl, rfl, yn4⟩
          exact AllReadyH.nil
        exact AllReadyH.nil
      refine br_alloc rfl rfl (some 5) rfl #[.int .u8 0, .int .u8 0, .int .u8 0, .int .u8 0, .int .u8 0, .int .u8 0, .int .u8 0, .int .u8 0, .int .u8 0, .int .u8 0, .int .u8 0, .int .u8 0, .int .u8 0, .int .u8 0, .int .u8 0, .int .u8 0] 23 (by kernel_rfl) (yn1.alloc _) ?_ ?_
      · have yn5 := yn1.new rfl 23 #[.int .u8 0, .int .u8 0, .int .u8 0, .int .u8 0, .int .u8 0, .int .u8 0, .int .u8 0, .int .u8 0, .int .u8 0, .int .u8 0, .int .u8 0, .int .u8 0, .int .u8 0, .int .u8 0, .int .u8 0, .int .u8 0]
        try simp only [Act.put, List.setIfInBounds_toArray, List.set_cons_zero, List.set_cons_succ]
        refine wpAnyH_ready (rs := [2]) (by kernel_rfl) (by simp) ?_
        refine br_call rfl rfl (some 34) rfl (c10_0 _) (by kernel_rfl) (fun w' hb => Mem.init (l := [(w0.heap.size, 23, a16 bs), (wb.heap.size, 23, #[.int .u8 32, .int .u8 1, .int .u8 13, .int .u8 184, .int .u8 192, .int .u8 0, .int .u8 2, .int .u8 33, .int .u8 0, .int .u8 0, .int .u8 0, .int .u8 0, .int .u8 0, .int .u8 0, .int .u8 0, .int .u8 0, .int .u8 32, .int .u8 1, .int .u8 13, .int .u8 184, .int .u8 1, .int .u8 192, .int .u8 0, .int .u8 2, .int .u8 0, .int .u8 33, .int .u8 0, .int .u8 0, .int .u8 0, .int .u8 0, .int .u8 0, .int .u8 0, .int .u8 32, .int .u8 1, .int .u8 13, .int .u8 184, .int .u8 1, .int .u8 34, .int .u8 192, .int .u8 0, .int .u8 0, .int .u8 2, .int .u8 33, .int .u8 0, .int .u8 0, .int .u8 0, .int .u8 0, .int .u8 0, .int .u8 32, .int .u8 1, .int .u8 13, .int .u8 184, .int .u8 1, .int .u8 34, .int .u8 3, .int .u8 192, .int .u8 0, .int .u8 0, .int .u8 2, .int .u8 33, .int .u8 0, .int .u8 0, .int .u8 0, .int .u8 0, .int .u8 32, .int .u8 1, .int .u8 13, .int .u8 184, .int .u8 1, .int .u8 34, .int .u8 3, .int .u8 68, .int .u8 0, .int .u8 192, .int .u8 0, .int .u8 2, .int .u8 33, .int .u8 0, .int .u8 0, .int .u8 0]), (wr0.heap.size, 26, netC (kp 0) 32)]) (yn5.call hb)) (fun y6 hb6 => ?_) ?_
        · have yn6 := yn5.call hb6
          clear hb6
          try simp only [Act.put, List.setIfInBounds_toArray, List.set_cons_zero, List.set_cons_succ]
          refine tk (i := 3) (v := ?_) rfl (some 31) rfl (by kernel_rfl) (by kernel_rfl) (by kernel_rfl) (fun _ _ _ h => h) (Or.inl ⟨by rfl, ?_⟩) (Mem.init (l := [(w0.heap.size, 23, a16 bs), (wb.heap.size, 23, #[.int .u8 32, .int .u8 1, .int .u8 13, .int .u8 184, .int .u8 192, .int .u8 0, .int .u8 2, .int .u8 33, .int .u8 0, .int .u8 0, .int .u8 0, .int .u8 0, .int .u8 0, .int .u8 0, .int .u8 0, .int .u8 0, .int .u8 32, .int .u8 1, .int .u8 13, .int .u8 184, .int .u8 1, .int .u8 192, .int .u8 0, .int .u8 2, .int .u8 0, .int .u8 33, .int .u8 0, .int .u8 0, .int .u8 0, .int .u8 0, .int .u8 0, .int .u8 0, .int .u8 32, .int .u8 1, .int .u8 13, .int .u8 184, .int .u8 1, .int .u8 34, .int .u8 192, .int .u8 0, .int .u8 0, .int .u8 2, .int .u8 33, .int .u8 0, .int .u8 0, .int .u8 0, .int .u8 0, .int .u8 0, .int .u8 32, .int .u8 1, .int .u8 13, .int .u8 184, .int .u8 1, .int .u8 34, .int .u8 3, .int .u8 192, .int .u8 0, .int .u8 0, .int .u8 2, .int .u8 33, .int .u8 0, .int .u8 0, .int .u8 0, .int .u8 0, .int .u8 32, .int .u8 1, .int .u8 13, .int .u8 184, .int .u8 1, .int .u8 34, .int .u8 3, .int .u8 68, .int .u8 0, .int .u8 192, .int .u8 0, .int .u8 2, .int .u8 33, .int .u8 0, .int .u8 0, .int .u8 0]), (wr0.heap.size, 26, netC (kp 0) 32)]) yn6) ?_
          rotate_left
          · intro w hS; go_simp; try with_reducible rfl
          try simp only [Act.put, List.setIfInBounds_toArray, List.set_cons_zero, List.set_cons_succ]
          refine tk (i := 4) (v := ?_) rfl (some 35) rfl (by kernel_rfl) (by kernel_rfl) (by kernel_rfl) (fun _ _ _ h => h) (Or.inl ⟨by rfl, ?_⟩) (Mem.init (l := [(w0.heap.size, 23, a16 bs), (wb.heap.size, 23, #[.int .u8 32, .int .u8 1, .int .u8 13, .int .u8 184, .int .u8 192, .int .u8 0, .int .u8 2, .int .u8 33, .int .u8 0, .int .u8 0, .int .u8 0, .int .u8 0, .int .u8 0, .int .u8 0, .int .u8 0, .int .u8 0, .int .u8 32, .int .u8 1, .int .u8 13, .int .u8 184, .int .u8 1, .int .u8 192, .int .u8 0, .int .u8 2, .int .u8 0, .int .u8 33, .int .u8 0, .int .u8 0, .int .u8 0, .int .u8 0, .int .u8 0, .int .u8 0, .int .u8 32, .int .u8 1, .int .u8 13, .int .u8 184, .int .u8 1, .int .u8 34, .int .u8 192, .int .u8 0, .int .u8 0, .int .u8 2, .int .u8 33, .int .u8 0, .int .u8 0, .int .u8 0, .int .u8 0, .int .u8 0, .int .u8 32, .int .u8 1, .int .u8 13, .int .u8 184, .int .u8 1, .int .u8 34, .int .u8 3, .int .u8 192, .int .u8 0, .int .u8 0, .int .u8 2, .int .u8 33, .int .u8 0, .int .u8 0, .int .u8 0, .int .u8 0, .int .u8 32, .int .u8 1, .int .u8 13, .int .u8 184, .int .u8 1, .int .u8 34, .int .u8 3, .int .u8 68, .int .u8 0, .int .u8 192, .int .u8 0, .int .u8 2, .int .u8 33, .int .u8 0, .int .u8 0, .int .u8 0]), (wr0.heap.size, 26, netC (kp 0) 32)]) yn6) ?_
          rotate_left
          · intro w hS; go_simp; try with_reducible rfl
          try simp only [Act.put, List.setIfInBounds_toArray, List.set_cons_zero, List.set_cons_succ]
          refine tk (i := 5) (v := ?_) rfl (some 36) rfl (by kernel_rfl) (by kernel_rfl) (by kernel_rfl) (fun _ _ _ h => h) (Or.inl ⟨by rfl, ?_⟩) (Mem.init (l := [(w0.heap.size, 23, a16 bs), (wb.heap.size, 23, #[.int .u8 32, .int .u8 1, .int .u8 13, .int .u8 184, .int .u8 192, .int .u8 0, .int .u8 2, .int .u8 33, .int .u8 0, .int .u8 0, .int .u8 0, .int .u8 0, .int .u8 0, .int .u8 0, .int .u8 0, .int .u8 0, .int .u8 32, .int .u8 1, .int .u8 13, .int .u8 184, .int .u8 1, .int .u8 192, .int .u8 0, .int .u8 2, .int .u8 0, .int .u8 33, .int .u8 0, .int .u8 0, .int .u8 0, .int .u8 0, .int .u8 0, .int .u8 0, .int .u8 32, .int .u8 1, .int .u8 13, .int .u8 184, .int .u8 1, .int .u8 34, .int .u8 192, .int .u8 0, .int .u8 0, .int .u8 2, .int .u8 33, .int .u8 0, .int .u8 0, .int .u8 0, .int .u8 0, .int .u8 0, .int .u8 32, .int .u8 1, .int .u8 13, .int .u8 184, .int .u8 1, .int .u8 34, .int .u8 3, .int .u8 192, .int .u8 0, .int .u8 0, .int .u8 2, .int .u8 33, .int .u8 0, .int .u8 0, .int .u8 0, .int .u8 0, .int .u8 32, .int .u8 1, .int .u8 13, .int .u8 184, .int .u8 1, .int .u8 34, .int .u8 3, .int .u8 68, .int .u8 0, .int .u8 192, .int .u8 0, .int .u8 2, .int .u8 33, .int .u8 0, .int .u8 0, .int .u8 0]), (wr0.heap.size, 26, netC (kp 0) 32)]) yn6) ?_
          rotate_left
          · intro w hS; go_simp; try with_reducible rfl
          try simp only [Act.put, List.setIfInBounds_toArray, List.set_cons_zero, List.set_cons_succ]
          refine wpAnyH_ready (rs := [7]) (by kernel_rfl) (by simp) ?_
          refine br_store yn6 3 rfl rfl 23 (.tmp 5) _ rfl rfl rfl rfl (a16 (emb (kp 0) hA 32)) rfl (by kernel_rfl) rfl (by kernel_rfl) _ rfl (fun w' M' => Mem.init (l := [(w0.heap.size, 23, a16 bs), (wb.heap.size, 23, #[.int .u8 32, .int .u8 1, .int .u8 13, .int .u8 184, .int .u8 192, .int .u8 0, .int .u8 2, .int .u8 33, .int .u8 0, .int .u8 0, .int .u8 0, .int .u8 0, .int .u8 0, .int .u8 0, .int .u8 0, .int .u8 0, .int .u8 32, .int .u8 1, .int .u8 13, .int .u8 184, .int .u8 1, .int .u8 192, .int .u8 0, .int .u8 2, .int .u8 0, .int .u8 33, .int .u8 0, .int .u8 0, .int .u8 0, .int .u8 0, .int .u8 0, .int .u8 0, .int .u8 32, .int .u8 1, .int .u8 13, .int .u8 184, .int .u8 1, .int .u8 34, .int .u8 192, .int .u8 0, .int .u8 0, .int .u8 2, .int .u8 33, .int .u8 0, .int .u8 0, .int .u8 0, .int .u8 0, .int .u8 0, .int .u8 32, .int .u8 1, .int .u8 13, .int .u8 184, .int .u8 1, .int .u8 34, .int .u8 3, .int .u8 192, .int .u8 0, .int .u8 0, .int .u8 2, .int .u8 33, .int .u8 0, .int .u8 0, .int .u8 0, .int .u8 0, .int .u8 32, .int .u8 1, .int .u8 13, .int .u8 184, .int .u8 1, .int .u8 34, .int .u8 3, .int .u8 68, .int .u8 0, .int .u8 192, .int .u8 0, .int .u8 2, .int .u8 33, .int .u8 0, .int .u8 0, .int .u8 0]), (wr0.heap.size, 26, netC (kp 0) 32)]) M') (fun y7 yn7 => ?_) ?_
          · try simp only [Act.put, List.setIfInBounds_toArray, List.set_cons_zero, List.set_cons_succ]
            refine tk (i := 8) (v := ?_) rfl (some 6) rfl (by kernel_rfl) (by kernel_rfl) (by kernel_rfl) (fun _ _ _ h => h) (Or.inl ⟨by rfl, ?_⟩) (Mem.init (l := [(w0.heap.size, 23, a16 bs), (wb.heap.size, 23, #[.int .u8 32, .int .u8 1, .int .u8 13, .int .u8 184, .int .u8 192, .int .u8 0, .int .u8 2, .int .u8 33, .int .u8 0, .int .u8 0, .int .u8 0, .int .u8 0, .int .u8 0, .int .u8 0, .int .u8 0, .int .u8 0, .int .u8 32, .int .u8 1, .int .u8 13, .int .u8 184, .int .u8 1, .int .u8 192, .int .u8 0, .int .u8 2, .int .u8 0, .int .u8 33, .int .u8 0, .int .u8 0, .int .u8 0, .int .u8 0, .int .u8 0, .int .u8 0, .int .u8 32, .int .u8 1, .int .u8 13, .int .u8 184, .int .u8 1, .int .u8 34, .int .u8 192, .int .u8 0, .int .u8 0, .int .u8 2, .int .u8 33, .int .u8 0, .int .u8 0, .int .u8 0, .int .u8 0, .int .u8 0, .int .u8 32, .int .u8 1, .int .u8 13, .int .u8 184, .int .u8 1, .int .u8 34, .int .u8 3, .int .u8 192, .int .u8 0, .int .u8 0, .int .u8 2, .int .u8 33, .int .u8 0, .int .u8 0, .int .u8 0, .int .u8 0, .int .u8 32, .int .u8 1, .int .u8 13, .int .u8 184, .int .u8 1, .int .u8 34, .int .u8 3, .int .u8 68, .int .u8 0, .int .u8 192, .int .u8 0, .int .u8 2, .int .u8 33, .int .u8 0, .int .u8 0, .int .u8 0]), (wr0.heap.size, 26, netC (kp 0) 32)]) yn7) ?_
            rotate_left
            · intro w hS; go_simp; try with_reducible rfl
            try simp only [Act.put, List.setIfInBounds_toArray, List.set_cons_zero, List.set_cons_succ]
            refine wpAnyH_done (by kernel_rfl) ?_ _
            go_wp2_with fail
            go_meet
            case rel => exact ⟨_, rfl, rfl, yn7⟩
          exact AllReadyH.nil
        exact AllReadyH.nil
      exact AllReadyH.nil
    refine br_alloc rfl rfl (some 5) rfl #[.int .u8 0, .int .u8 0, .int .u8 0, .int .u8 0, .int .u8 0, .int .u8 0, .int .u8 0, .int .u8 0, .int .u8 0, .int .u8 0, .int .u8 0, .int .u8 0, .int .u8 0, .int .u8 0, .int .u8 0, .int .u8 0] 23 (by kernel_rfl) (M5.alloc _) ?_ ?_
    · have yn8 := M5.new rfl 23 #[.int .u8 0, .int .u8 0, .int .u8 0, .int .u8 0, .int .u8 0, .int .u8 0, .int .u8 0, .int .u8 0, .int .u8 0, .int .u8 0, .int .u8 0, .int .u8 0, .int .u8 0, .int .u8 0, .int .u8 0, .int .u8 0]
      try simp only [Act.put, List.setIfInBounds_toArray, List.set_cons_zero, List.set_cons_succ]
      refine wpAnyH_ready (rs := [1]) (by kernel_rfl) (by simp) ?_
      refine br_call rfl rfl (some 33) rfl (host_any _) (by kernel_rfl) (fun w' hb => Mem.init (l := [(w0.heap.size, 23, a16 bs), (wb.heap.size, 23, #[.int .u8 32, .int .u8 1, .int .u8 13, .int .u8 184, .int .u8 192, .int .u8 0, .int .u8 2, .int .u8 33, .int .u8 0, .int .u8 0, .int .u8 0, .int .u8 0, .int .u8 0, .int .u8 0, .int .u8 0, .int .u8 0, .int .u8 32, .int .u8 1, .int .u8 13, .int .u8 184, .int .u8 1, .int .u8 192, .int .u8 0, .int .u8 2, .int .u8 0, .int .u8 33, .int .u8 0, .int .u8 0, .int .u8 0, .int .u8 0, .int .u8 0, .int .u8 0, .int .u8 32, .int .u8 1, .int .u8 13, .int .u8 184, .int .u8 1, .int .u8 34, .int .u8 192, .int .u8 0, .int .u8 0, .int .u8 2, .int .u8 33, .int .u8 0, .int .u8 0, .int .u8 0, .int .u8 0, .int .u8 0, .int .u8 32, .int .u8 1, .int .u8 13, .int .u8 184, .int .u8 1, .int .u8 34, .int .u8 3, .int .u8 192, .int .u8 0, .int .u8 0, .int .u8 2, .int .u8 33, .int .u8 0, .int .u8 0, .int .u8 0, .int .u8 0, .int .u8 32, .int .u8 1, .int .u8 13, .int .u8 184, .int .u8 1, .int .u8 34, .int .u8 3, .int .u8 68, .int .u8 0, .int .u8 192, .int .u8 0, .int .u8 2, .int .u8 33, .int .u8 0, .int .u8 0, .int .u8 0]), (wr0.heap.size, 26, netC (kp 0) 32)]) (yn8.call hb)) (fun y9 hb9 => ?_) ?_
      · have yn9 := yn8.call hb9
        clear hb9
        try simp only [Act.put, List.setIfInBounds_toArray, List.set_cons_zero, List.set_cons_succ]
        refine wpAnyH_ready (rs := [2]) (by kernel_rfl) (by simp) ?_
        refine br_call rfl rfl (some 34) rfl (c10_0 _) (by kernel_rfl) (fun w' hb => Mem.init (l := [(w0.heap.size, 23, a16 bs), (wb.heap.size, 23, #[.int .u8 32, .int .u8 1, .int .u8 13, .int .u8 184, .int .u8 192, .int .u8 0, .int .u8 2, .int .u8 33, .int .u8 0, .int .u8 0, .int .u8 0, .int .u8 0, .int .u8 0, .int .u8 0, .int .u8 0, .int .u8 0, .int .u8 32, .int .u8 1, .int .u8 13, .int .u8 184, .int .u8 1, .int .u8 192, .int .u8 0, .int .u8 2, .int .u8 0, .int .u8 33, .int .u8 0, .int .u8 0, .int .u8 0, .int .u8 0, .int .u8 0, .int .u8 0, .int .u8 32, .int .u8 1, .int .u8 13, .int .u8 184, .int .u8 1, .int .u8 34, .int .u8 192, .int .u8 0, .int .u8 0, .int .u8 2, .int .u8 33, .int .u8 0, .int .u8 0, .int .u8 0, .int .u8 0, .int .u8 0, .int .u8 32, .int .u8 1, .int .u8 13, .int .u8 184, .int .u8 1, .int .u8 34, .int .u8 3, .int .u8 192, .int .u8 0, .int .u8 0, .int .u8 2, .int .u8 33, .int .u8 0, .int .u8 0, .int .u8 0, .int .u8 0, .int .u8 32, .int .u8 1, .int .u8 13, .int .u8 184, .int .u8 1, .int .u8 34, .int .u8 3, .int .u8 68, .int .u8 0, .int .u8 192, .int .u8 0, .int .u8 2, .int .u8 33, .int .u8 0, .int .u8 0, .int .u8 0]), (wr0.heap.size, 26, netC (kp 0) 32)]) (yn9.call hb)) (fun y10 hb10 => ?_) ?_
        · have yn10 := yn9.call hb10
          clear hb10
          try simp only [Act.put, List.setIfInBounds_toArray, List.set_cons_zero, List.set_cons_succ]
          refine tk (i := 3) (v := ?_) rfl (some 31) rfl (by kernel_rfl) (by kernel_rfl) (by kernel_rfl) (fun _ _ _ h => h) (Or.inl ⟨by rfl, ?_⟩) (Mem.init (l := [(w0.heap.size, 23, a16 bs), (wb.heap.size, 23, #[.int .u8 32, .int .u8 1, .int .u8 13, .int .u8 184, .int .u8 192, .int .u8 0, .int .u8 2, .int .u8 33, .int .u8 0, .int .u8 0, .int .u8 0, .int .u8 0, .int .u8 0, .int .u8 0, .int .u8 0, .int .u8 0, .int .u8 32, .int .u8 1, .int .u8 13, .int .u8 184, .int .u8 1, .int .u8 192, .int .u8 0, .int .u8 2, .int .u8 0, .int .u8 33, .int .u8 0, .int .u8 0, .int .u8 0, .int .u8 0, .int .u8 0, .int .u8 0, .int .u8 32, .int .u8 1, .int .u8 13, .int .u8 184, .int .u8 1, .int .u8 34, .int .u8 192, .int .u8 0, .int .u8 0, .int .u8 2, .int .u8 33, .int .u8 0, .int .u8 0, .int .u8 0, .int .u8 0, .int .u8 0, .int .u8 32, .int .u8 1, .int .u8 13, .int .u8 184, .int .u8 1, .int .u8 34, .int .u8 3, .int .u8 192, .int .u8 0, .int .u8 0, .int .u8 2, .int .u8 33, .int .u8 0, .int .u8 0, .int .u8 0, .int .u8 0, .int .u8 32, .int .u8 1, .int .u8 13, .int .u8 184, .int .u8 1, .int .u8 34, .int .u8 3, .int .u8 68, .int .u8 0, .int .u8 192, .int .u8 0, .int .u8 2, .int .u8 33, .int .u8 0, .int .u8 0, .int .u8 0]), (wr0.heap.size, 26, netC (kp 0) 32)]) yn10) ?_
          rotate_left
          · intro w hS; go_simp; try with_reducible rfl
          try simp only [Act.put, List.setIfInBounds_toArray, List.set_cons_zero, List.set_cons_succ]
          refine tk (i := 4) (v := ?_) rfl (some 35) rfl (by kernel_rfl) (by kernel_rfl) (by kernel_rfl) (fun _ _ _ h => h) (Or.inl ⟨by rfl, ?_⟩) (Mem.init (l := [(w0.heap.size, 23, a16 bs), (wb.heap.size, 23, #[.int .u8 32, .int .u8 1, .int .u8 13, .int .u8 184, .int .u8 192, .int .u8 0, .int .u8 2, .int .u8 33, .int .u8 0, .int .u8 0, .int .u8 0, .int .u8 0, .int .u8 0, .int .u8 0, .int .u8 0, .int .u8 0, .int .u8 32, .int .u8 1, .int .u8 13, .int .u8 184, .int .u8 1, .int .u8 192, .int .u8 0, .int .u8 2, .int .u8 0, .int .u8 33, .int .u8 0, .int .u8 0, .int .u8 0, .int .u8 0, .int .u8 0, .int .u8 0, .int .u8 32, .int .u8 1, .int .u8 13, .int .u8 184, .int .u8 1, .int .u8 34, .int .u8 192, .int .u8 0, .int .u8 0, .int .u8 2, .int .u8 33, .int .u8 0, .int .u8 0, .int .u8 0, .int .u8 0, .int .u8 0, .int .u8 32, .int .u8 1, .int .u8 13, .int .u8 184, .int .u8 1, .int .u8 34, .int .u8 3, .int .u8 192, .int .u8 0, .int .u8 0, .int .u8 2, .int .u8 33, .int .u8 0, .int .u8 0, .int .u8 0, .int .u8 0, .int .u8 32, .int .u8 1, .int .u8 13, .int .u8 184, .int .u8 1, .int .u8 34, .int .u8 3, .int .u8 68, .int .u8 0, .int .u8 192, .int .u8 0, .int .u8 2, .int .u8 33, .int .u8 0, .int .u8 0, .int .u8 0]), (wr0.heap.size, 26, netC (kp 0) 32)]) yn10) ?_
          rotate_left
          · intro w hS; go_simp; try with_reducible rfl
          try simp only [Act.put, List.setIfInBounds_toArray, List.set_cons_zero, List.set_cons_succ]
          refine tk (i := 5) (v := ?_) rfl (some 36) rfl (by kernel_rfl) (by kernel_rfl) (by kernel_rfl) (fun _ _ _ h => h) (Or.inl ⟨by rfl, ?_⟩) (Mem.init (l := [(w0.heap.size, 23, a16 bs), (wb.heap.size, 23, #[.int .u8 32, .int .u8 1, .int .u8 13, .int .u8 184, .int .u8 192, .int .u8 0, .int .u8 2, .int .u8 33, .int .u8 0, .int .u8 0, .int .u8 0, .int .u8 0, .int .u8 0, .int .u8 0, .int .u8 0, .int .u8 0, .int .u8 32, .int .u8 1, .int .u8 13, .int .u8 184, .int .u8 1, .int .u8 192, .int .u8 0, .int .u8 2, .int .u8 0, .int .u8 33, .int .u8 0, .int .u8 0, .int .u8 0, .int .u8 0, .int .u8 0, .int .u8 0, .int .u8 32, .int .u8 1, .int .u8 13, .int .u8 184, .int .u8 1, .int .u8 34, .int .u8 192, .int .u8 0, .int .u8 0, .int .u8 2, .int .u8 33, .int .u8 0, .int .u8 0, .int .u8 0, .int .u8 0, .int .u8 0, .int .u8 32, .int .u8 1, .int .u8 13, .int .u8 184, .int .u8 1, .int .u8 34, .int .u8 3, .int .u8 192, .int .u8 0, .int .u8 0, .int .u8 2, .int .u8 33, .int .u8 0, .int .u8 0, .int .u8 0, .int .u8 0, .int .u8 32, .int .u8 1, .int .u8 13, .int .u8 184, .int .u8 1, .int .u8 34, .int .u8 3, .int .u8 68, .int .u8 0, .int .u8 192, .int .u8 0, .int .u8 2, .int .u8 33, .int .u8 0, .int .u8 0, .int .u8 0]), (wr0.heap.size, 26, netC (kp 0) 32)]) yn10) ?_
          rotate_left
          · intro w hS; go_simp; try with_reducible rfl
          try simp only [Act.put, List.setIfInBounds_toArray, List.set_cons_zero, List.set_cons_succ]
          refine wpAnyH_ready (rs := [7]) (by kernel_rfl) (by simp) ?_
          refine br_store yn10 3 rfl rfl 23 (.tmp 5) _ rfl rfl rfl rfl (a16 (emb (kp 0) hA 32)) rfl (by kernel_rfl) rfl (by kernel_rfl) _ rfl (fun w' M' => Mem.init (l := [(w0.heap.size, 23, a16 bs), (wb.heap.size, 23, #[.int .u8 32, .int .u8 1, .int .u8 13, .int .u8 184, .int .u8 192, .int .u8 0, .int .u8 2, .int .u8 33, .int .u8 0, .int .u8 0, .int .u8 0, .int .u8 0, .int .u8 0, .int .u8 0, .int .u8 0, .int .u8 0, .int .u8 32, .int .u8 1, .int .u8 13, .int .u8 184, .int .u8 1, .int .u8 192, .int .u8 0, .int .u8 2, .int .u8 0, .int .u8 33, .int .u8 0, .int .u8 0, .int .u8 0, .int .u8 0, .int .u8 0, .int .u8 0, .int .u8 32, .int .u8 1, .int .u8 13, .int .u8 184, .int .u8 1, .int .u8 34, .int .u8 192, .int .u8 0, .int .u8 0, .int .u8 2, .int .u8 33, .int .u8 0, .int .u8 0, .int .u8 0, .int .u8 0, .int .u8 0, .int .u8 32, .int .u8 1, .int .u8 13, .int .u8 184, .int .u8 1, .int .u8 34, .int .u8 3, .int .u8 192, .int .u8 0, .int .u8 0, .int .u8 2, .int .u8 33, .int .u8 0, .int .u8 0, .int .u8 0, .int .u8 0, .int .u8 32, .int .u8 1, .int .u8 13, .int .u8 184, .int .u8 1, .int .u8 34, .int .u8 3, .int .u8 68, .int .u8 0, .int .u8 192, .int .u8 0, .int .u8 2, .int .u8 33, .int .u8 0, .int .u8 0, .int .u8 0]), (wr0.heap.size, 26, netC (kp 0) 32)]) M') (fun y11 yn11 => ?_) ?_
          · try simp only [Act.put, List.setIfInBounds_toArray, List.set_cons_zero, List.set_cons_succ]
            refine tk (i := 8) (v := ?_) rfl (some 6) rfl (by kernel_rfl) (by kernel_rfl) (by kernel_rfl) (fun _ _ _ h => h) (Or.inl ⟨by rfl, ?_⟩) (Mem.init (l := [(w0.heap.size, 23, a16 bs), (wb.heap.size, 23, #[.int .u8 32, .int .u8 1, .int .u8 13, .int .u8 184, .int .u8 192, .int .u8 0, .int .u8 2, .int .u8 33, .int .u8 0, .int .u8 0, .int .u8 0, .int .u8 0, .int .u8 0, .int .u8 0, .int .u8 0, .int .u8 0, .int .u8 32, .int .u8 1, .int .u8 13, .int .u8 184, .int .u8 1, .int .u8 192, .int .u8 0, .int .u8 2, .int .u8 0, .int .u8 33, .int .u8 0, .int .u8 0, .int .u8 0, .int .u8 0, .int .u8 0, .int .u8 0, .int .u8 32, .int .u8 1, .int .u8 13, .int .u8 184, .int .u8 1, .int .u8 34, .int .u8 192, .int .u8 0, .int .u8 0, .int .u8 2, .int .u8 33, .int .u8 0, .int .u8 0, .int .u8 0, .int .u8 0, .int .u8 0, .int .u8 32, .int .u8 1, .int .u8 13, .int .u8 184, .int .u8 1, .int .u8 34, .int .u8 3, .int .u8 192, .int .u8 0, .int .u8 0, .int .u8 2, .int .u8 33, .int .u8 0, .int .u8 0, .int .u8 0, .int .u8 0, .int .u8 32, .int .u8 1, .int .u8 13, .int .u8 184, .int .u8 1, .int .u8 34, .int .u8 3, .int .u8 68, .int .u8 0, .int .u8 192, .int .u8 0, .int .u8 2, .int .u8 33, .int .u8 0, .int .u8 0, .int .u8 0]), (wr0.heap.size, 26, netC (kp 0) 32)]) yn11) ?_
            rotate_left
            · intro w hS; go_simp; try with_reducible rfl
            try simp only [Act.put, List.setIfInBounds_toArray, List.set_cons_zero, List.set_cons_succ]
            refine wpAnyH_done (by kernel_rfl) ?_ _
            go_wp2_with fail
            go_meet
            case rel => exact ⟨_, rfl, rfl, yn11⟩
          exact AllReadyH.nil
        exact AllReadyH.nil
      exact AllReadyH.nil
    exact AllReadyH.nil
  obtain ⟨g5_0, rfl, rfl, MZ0⟩ := hcut
  clear MC0
  go_upto_region 9 with fail
  refine hide_l MZ0 (fun wy0 MY0 => ?_)
  clear MZ0
  refine wp_region_held_drew (S := fun w' => Mem w w' _) (by kernel_rfl) MY0.drew (fun _ => ?_)
  have MX0 := MY0.drew
  clear MY0
  refine tk (i := 0) (v := ?_) rfl (some 37) rfl (by kernel_rfl) (by kernel_rfl) (by kernel_rfl) (fun _ _ _ h => h) (Or.inl ⟨by kernel_rfl, ?_⟩) MX0 ?_
  rotate_left
  · intro w hS; go_simp; (try simp only [IntKind.wrap_i64, Int.reduceAdd, Int.reduceSub, Int.reduceMul, Int.reduceMod, Int.reducePow, Int.reduceNeg]); try with_reducible rfl
  try simp only [Act.put, List.setIfInBounds_toArray, List.set_cons_zero, List.set_cons_succ]
  refine tk (i := 1) (v := ?_) rfl (some 38) rfl (by kernel_rfl) (by kernel_rfl) (by kernel_rfl) (fun _ _ _ h => h) (Or.inl ⟨by kernel_rfl, ?_⟩) MX0 ?_
  rotate_left
  · intro w hS; go_simp; (try simp only [IntKind.wrap_i64, Int.reduceAdd, Int.reduceSub, Int.reduceMul, Int.reduceMod, Int.reducePow, Int.reduceNeg]); try with_reducible rfl
  try simp only [Act.put, List.setIfInBounds_toArray, List.set_cons_zero, List.set_cons_succ]
  refine tk (i := 2) (v := ?_) rfl (some 39) rfl (by kernel_rfl) (by kernel_rfl) (by kernel_rfl) (fun _ _ _ h => h) (Or.inl ⟨by kernel_rfl, ?_⟩) MX0 ?_
  rotate_left
  · intro w hS; go_simp; (try simp only [IntKind.wrap_i64, Int.reduceAdd, Int.reduceSub, Int.reduceMul, Int.reduceMod, Int.reducePow, Int.reduceNeg]); try with_reducible rfl
  try simp only [Act.put, List.setIfInBounds_toArray, List.set_cons_zero, List.set_cons_succ]
  refine tk (i := 3) rfl (some 40) rfl (by kernel_rfl) (by kernel_rfl) (by kernel_rfl) (fun _ _ _ h => h) (yi_row 3 23 (.tmp 5) rfl (by kernel_rfl) rfl rfl Try.underlying23 rfl (by kernel_rfl)) MX0 ?_
  try simp only [Act.put, List.setIfInBounds_toArray, List.set_cons_zero, List.set_cons_succ]
  refine tk (i := 4) (v := ?_) rfl (some 41) rfl (by kernel_rfl) (by kernel_rfl) (by kernel_rfl) (fun _ _ _ h => h) (Or.inl ⟨by kernel_rfl, ?_⟩) MX0 ?_
  rotate_left
  · intro w hS; go_simp; (try simp only [IntKind.wrap_i64, Int.reduceAdd, Int.reduceSub, Int.reduceMul, Int.reduceMod, Int.reducePow, Int.reduceNeg]); try with_reducible rfl
  try simp only [Act.put, List.setIfInBounds_toArray, List.set_cons_zero, List.set_cons_succ]
  refine tk (i := 5) (v := ?_) rfl (some 42) rfl (by kernel_rfl) (by kernel_rfl) (by kernel_rfl) (fun _ _ _ h => h) (Or.inl ⟨by kernel_rfl, ?_⟩) MX0 ?_
  rotate_left
  · intro w hS; go_simp; (try simp only [IntKind.wrap_i64, Int.reduceAdd, Int.reduceSub, Int.reduceMul, Int.reduceMod, Int.reducePow, Int.reduceNeg]); try with_reducible rfl
  try simp only [Act.put, List.setIfInBounds_toArray, List.set_cons_zero, List.set_cons_succ]
  refine tk (i := 6) (v := ?_) rfl (some 43) rfl (by kernel_rfl) (by kernel_rfl) (by kernel_rfl) (fun _ _ _ h => h) (Or.inl ⟨by kernel_rfl, ?_⟩) MX0 ?_
  rotate_left
  · intro w hS; go_simp; (try simp only [IntKind.wrap_i64, Int.reduceAdd, Int.reduceSub, Int.reduceMul, Int.reduceMod, Int.reducePow, Int.reduceNeg]); try with_reducible rfl
  try simp only [Act.put, List.setIfInBounds_toArray, List.set_cons_zero, List.set_cons_succ]
  refine tk (i := 7) rfl (some 44) rfl (by kernel_rfl) (by kernel_rfl) (by kernel_rfl) (fun _ _ _ h => h) (yi_part 1 23 (.tmp 43) rfl (by kernel_rfl) rfl 0 rfl #[.int .u8 32, .int .u8 1, .int .u8 13, .int .u8 184, .int .u8 192, .int .u8 0, .int .u8 2, .int .u8 33, .int .u8 0, .int .u8 0, .int .u8 0, .int .u8 0, .int .u8 0, .int .u8 0, .int .u8 0, .int .u8 0] Try.underlying23 rfl (by kernel_rfl) (by kernel_rfl)) MX0 ?_
  try simp only [Act.put, List.setIfInBounds_toArray, List.set_cons_zero, List.set_cons_succ]
  refine tk (i := 8) (v := ?_) rfl (some 45) rfl (by kernel_rfl) (by kernel_rfl) (by kernel_rfl) (fun _ _ _ h => h) (Or.inl ⟨by kernel_rfl, ?_⟩) MX0 ?_
  rotate_left
  · intro w hS; go_simp; (try simp only [IntKind.wrap_i64, Int.reduceAdd, Int.reduceSub, Int.reduceMul, Int.reduceMod, Int.reducePow, Int.reduceNeg]); try with_reducible rfl
  try simp only [Act.put, List.setIfInBounds_toArray, List.set_cons_zero, List.set_cons_succ]
  refine tk (i := 9) (v := ?_) rfl (some 46) rfl (by kernel_rfl) (by kernel_rfl) (by kernel_rfl) (fun _ _ _ h => h) (Or.inl ⟨by kernel_rfl, ?_⟩) MX0 ?_
  rotate_left
  · intro w hS; go_simp; (try simp only [IntKind.wrap_i64, Int.reduceAdd, Int.reduceSub, Int.reduceMul, Int.reduceMod, Int.reducePow, Int.reduceNeg]); try with_reducible rfl
  try simp only [Act.put, List.setIfInBounds_toArray, List.set_cons_zero, List.set_cons_succ]
  refine wpAnyH_done (by kernel_rfl) ?_ _
  go_upto_region 5 with fail
  refine wp_region_lit ?_
  refine lv (by kernel_rfl) (some 18) rfl (v := ?_) ?_ ?_
  rotate_left
  · go_simp; (try simp only [IntKind.wrap_i64, Int.reduceAdd, Int.reduceSub, Int.reduceMul, Int.reduceMod, Int.reducePow, Int.reduceNeg]); try with_reducible rfl
  try simp only [Act.put, List.setIfInBounds_toArray, List.set_cons_zero, List.set_cons_succ]
  refine lv (by kernel_rfl) (some 19) rfl (v := ?_) ?_ ?_
  rotate_left
  · go_simp; (try simp only [IntKind.wrap_i64, Int.reduceAdd, Int.reduceSub, Int.reduceMul, Int.reduceMod, Int.reducePow, Int.reduceNeg]); try with_reducible rfl
  try simp only [Act.put, List.setIfInBounds_toArray, List.set_cons_zero, List.set_cons_succ]
  refine lv (by kernel_rfl) (some 3) rfl (v := ?_) ?_ ?_
  rotate_left
  · go_simp; (try simp only [IntKind.wrap_i64, Int.reduceAdd, Int.reduceSub, Int.reduceMul, Int.reduceMod, Int.reducePow, Int.reduceNeg]); try with_reducible rfl
  try simp only [Act.put, List.setIfInBounds_toArray, List.set_cons_zero, List.set_cons_succ]
  refine wpList_nil ?_
  go_wp2_with fail
  have ME0 : Mem w _ [(w0.heap.size, 23, a16 bs), (wb.heap.size, 23, #[.int .u8 32, .int .u8 1, .int .u8 13, .int .u8 184, .int .u8 192, .int .u8 0, .int .u8 2, .int .u8 33, .int .u8 0, .int .u8 0, .int .u8 0, .int .u8 0, .int .u8 0, .int .u8 0, .int .u8 0, .int .u8 0, .int .u8 32, .int .u8 1, .int .u8 13, .int .u8 184, .int .u8 1, .int .u8 192, .int .u8 0, .int .u8 2, .int .u8 0, .int .u8 33, .int .u8 0, .int .u8 0, .int .u8 0, .int .u8 0, .int .u8 0, .int .u8 0, .int .u8 32, .int .u8 1, .int .u8 13, .int .u8 184, .int .u8 1, .int .u8 34, .int .u8 192, .int .u8 0, .int .u8 0, .int .u8 2, .int .u8 33, .int .u8 0, .int .u8 0, .int .u8 0, .int .u8 0, .int .u8 0, .int .u8 32, .int .u8 1, .int .u8 13, .int .u8 184, .int .u8 1, .int .u8 34, .int .u8 3, .int .u8 192, .int .u8 0, .int .u8 0, .int .u8 2, .int .u8 33, .int .u8 0, .int .u8 0, .int .u8 0, .int .u8 0, .int .u8 32, .int .u8 1, .int .u8 13, .int .u8 184, .int .u8 1, .int .u8 34, .int .u8 3, .int .u8 68, .int .u8 0, .int .u8 192, .int .u8 0, .int .u8 2, .int .u8 33, .int .u8 0, .int .u8 0, .int .u8 0])] := Mem.init (r := [_, _]) MX0
  clear MX0
  rw [rounds_succ]
  refine hide_l ME0 (fun wr1 MR1 => ?_)
  clear ME0
  go_upto_region 4 with fail
  refine wp_region_lit ?_
  refine lv (by kernel_rfl) (some 16) rfl (v := ?_) ?_ ?_
  rotate_left
  · go_simp; (try simp only [IntKind.wrap_i64, Int.reduceAdd, Int.reduceSub, Int.reduceMul, Int.reduceMod, Int.reducePow, Int.reduceNeg]); try with_reducible rfl
  try simp only [Act.put, List.setIfInBounds_toArray, List.set_cons_zero, List.set_cons_succ]
  refine lv (by kernel_rfl) (some 17) rfl (v := ?_) ?_ ?_
  rotate_left
  · go_simp; (try simp only [IntKind.wrap_i64, Int.reduceAdd, Int.reduceSub, Int.reduceMul, Int.reduceMod, Int.reducePow, Int.reduceNeg]); try with_reducible rfl
  try simp only [Act.put, List.setIfInBounds_toArray, List.set_cons_zero, List.set_cons_succ]
  refine wpList_nil ?_
  go_upto_region 6 with fail
  refine wp_region_lit ?_
  refine lv (by kernel_rfl) (some 20) rfl (v := ?_) ?_ ?_
  rotate_left
  · go_simp; (try simp only [IntKind.wrap_i64, Int.reduceAdd, Int.reduceSub, Int.reduceMul, Int.reduceMod, Int.reducePow, Int.reduceNeg]); try with_reducible rfl
  try simp only [Act.put, List.setIfInBounds_toArray, List.set_cons_zero, List.set_cons_succ]
  refine lv (by kernel_rfl) (some 21) rfl (v := ?_) ?_ ?_
  rotate_left
  · go_simp; (try simp only [IntKind.wrap_i64, Int.reduceAdd, Int.reduceSub, Int.reduceMul, Int.reduceMod, Int.reducePow, Int.reduceNeg]); try with_reducible rfl
  try simp only [Act.put, List.setIfInBounds_toArray, List.set_cons_zero, List.set_cons_succ]
  refine lv (by kernel_rfl) (some 22) rfl (v := ?_) ?_ ?_
  rotate_left
  · go_simp; (try simp only [IntKind.wrap_i64, Int.reduceAdd, Int.reduceSub, Int.reduceMul, Int.reduceMod, Int.reducePow, Int.reduceNeg]); try with_reducible rfl
  try simp only [Act.put, List.setIfInBounds_toArray, List.set_cons_zero, List.set_cons_succ]
  refine lv (by kernel_rfl) (some 23) rfl (v := ?_) ?_ ?_
  rotate_left
  · go_simp; (try simp only [IntKind.wrap_i64, Int.reduceAdd, Int.reduceSub, Int.reduceMul, Int.reduceMod, Int.reducePow, Int.reduceNeg]); try with_reducible rfl
  try simp only [Act.put, List.setIfInBounds_toArray, List.set_cons_zero, List.set_cons_succ]
  refine l_alloc (by kernel_rfl) (some 4) rfl #[.int .u8 0, .int .u8 0, .int .u8 0, .int .u8 0, .int .u8 0, .int .u8 0, .int .u8 0, .int .u8 0, .int .u8 0, .int .u8 0, .int .u8 0, .int .u8 0, .int .u8 0, .int .u8 0, .int .u8 0, .int .u8 0, .int .i64 0] 26 (by kernel_rfl) ?_
  have MP1 := MR1.new rfl 26 #[.int .u8 0, .int .u8 0, .int .u8 0, .int .u8 0, .int .u8 0, .int .u8 0, .int .u8 0, .int .u8 0, .int .u8 0, .int .u8 0, .int .u8 0, .int .u8 0, .int .u8 0, .int .u8 0, .int .u8 0, .int .u8 0, .int .i64 0]
  clear MR1
  try simp only [List.cons_append, List.nil_append, List.set_cons_zero, List.set_cons_succ] at MP1
  try simp only [Act.put, List.setIfInBounds_toArray, List.set_cons_zero, List.set_cons_succ]
  refine l_store MP1 2 (by kernel_rfl) 26 (.tmp 4) _ rfl rfl rfl rfl #[.int .u8 0, .int .u8 0, .int .u8 0, .int .u8 0, .int .u8 0, .int .u8 0, .int .u8 0, .int .u8 0, .int .u8 0, .int .u8 0, .int .u8 0, .int .u8 0, .int .u8 0, .int .u8 0, .int .u8 0, .int .u8 0, .int .i64 40] rfl (by kernel_rfl) (by rfl) (by kernel_rfl) _ rfl (fun wp1 MQ1 => ?_)
  clear MP1
  try simp only [List.cons_append, List.nil_append, List.set_cons_zero, List.set_cons_succ] at MQ1
  try simp only [Act.put, List.setIfInBounds_toArray, List.set_cons_zero, List.set_cons_succ]
  refine wpList_nil ?_
  go_upto_region 7 with fail
  have C7 : wp1.drew.cell? ⟨wr1.heap.size, 16, none⟩ = some (.int .i64 40) := (MQ1.row (i := 2) rfl).cell rfl
  refine wp_region_held_drew (S := fun w' => w'.cell? ⟨wr1.heap.size, 16, none⟩ = some (.int .i64 40)) (by kernel_rfl) C7 (fun _ => ?_)
  have MD1 := MQ1.drew
  clear MQ1
  refine tk (i := 0) (v := ?_) rfl (some 24) rfl (by kernel_rfl) (by kernel_rfl) (by kernel_rfl) (fun _ _ _ h => h) (Or.inl ⟨by kernel_rfl, ?_⟩) C7 ?_
  rotate_left
  · intro w hS; (try dsimp only at hS); go_simp; (try simp only [IntKind.wrap_i64, Int.reduceAdd, Int.reduceSub, Int.reduceMul, Int.reduceMod, Int.reducePow, Int.reduceNeg]); try with_reducible rfl
  try simp only [Act.put, List.setIfInBounds_toArray, List.set_cons_zero, List.set_cons_succ]
  refine tk (i := 1) (v := ?_) rfl (some 25) rfl (by kernel_rfl) (by kernel_rfl) (by kernel_rfl) (fun _ _ _ h => h) (Or.inl ⟨by kernel_rfl, ?_⟩) C7 ?_
  rotate_left
  · intro w hS; (try dsimp only at hS); go_simp; (try simp only [IntKind.wrap_i64, Int.reduceAdd, Int.reduceSub, Int.reduceMul, Int.reduceMod, Int.reducePow, Int.reduceNeg]); try with_reducible rfl
  try simp only [Act.put, List.setIfInBounds_toArray, List.set_cons_zero, List.set_cons_succ]
  refine tk (i := 2) (v := ?_) rfl (some 26) rfl (by kernel_rfl) (by kernel_rfl) (by kernel_rfl) (fun _ _ _ h => h) (Or.inl ⟨by kernel_rfl, ?_⟩) C7 ?_
  rotate_left
  · intro w hS; (try dsimp only at hS); go_simp; (try simp only [IntKind.wrap_i64, Int.reduceAdd, Int.reduceSub, Int.reduceMul, Int.reduceMod, Int.reducePow, Int.reduceNeg]); try with_reducible rfl
  try simp only [Act.put, List.setIfInBounds_toArray, List.set_cons_zero, List.set_cons_succ]
  refine tk (i := 3) (v := ?_) rfl (some 27) rfl (by kernel_rfl) (by kernel_rfl) (by kernel_rfl) (fun _ _ _ h => h) (Or.inl ⟨by kernel_rfl, ?_⟩) C7 ?_
  rotate_left
  · intro w hS; (try dsimp only at hS); go_simp; (try simp only [IntKind.wrap_i64, Int.reduceAdd, Int.reduceSub, Int.reduceMul, Int.reduceMod, Int.reducePow, Int.reduceNeg]); try with_reducible rfl
  try simp only [Act.put, List.setIfInBounds_toArray, List.set_cons_zero, List.set_cons_succ]
  refine tk (i := 4) (v := ?_) rfl (some 28) rfl (by kernel_rfl) (by kernel_rfl) (by kernel_rfl) (fun _ _ _ h => h) (Or.inl ⟨by kernel_rfl, ?_⟩) C7 ?_
  rotate_left
  · intro w hS; (try dsimp only at hS); go_simp; (try simp only [IntKind.wrap_i64, Int.reduceAdd, Int.reduceSub, Int.reduceMul, Int.reduceMod, Int.reducePow, Int.reduceNeg]); try with_reducible rfl
  try simp only [Act.put, List.setIfInBounds_toArray, List.set_cons_zero, List.set_cons_succ]
  refine tk (i := 5) (v := ?_) rfl (some 29) rfl (by kernel_rfl) (by kernel_rfl) (by kernel_rfl) (fun _ _ _ h => h) (Or.inl ⟨by kernel_rfl, ?_⟩) C7 ?_
  rotate_left
  · intro w hS; (try dsimp only at hS); go_simp; (try simp only [IntKind.wrap_i64, Int.reduceAdd, Int.reduceSub, Int.reduceMul, Int.reduceMod, Int.reducePow, Int.reduceNeg]); try with_reducible rfl
  try simp only [Act.put, List.setIfInBounds_toArray, List.set_cons_zero, List.set_cons_succ]
  refine wpAnyH_ready (rs := [6]) (by kernel_rfl) (by simp) ?_
  refine br_copy MD1 2 0 rfl (by kernel_rfl) (some 30) rfl (.tmp 28) (.tmp 29) rfl rfl rfl 5 16 16 16 rfl rfl [.int .u8 (bs 0), .int .u8 (bs 1), .int .u8 (bs 2), .int .u8 (bs 3), .int .u8 (bs 4)] rfl rfl (by kernel_rfl) (by kernel_rfl) (netC (kp 1) 40) (by kernel_rfl) _ rfl (fun w' M' => (M'.row (i := 2) rfl).cell rfl) (fun wq1 MC1 => ?_) AllReadyH.nil
  clear C7
  clear MD1
  try simp only [List.cons_append, List.nil_append, List.set_cons_zero, List.set_cons_succ] at MC1
  try simp only [Act.put, List.setIfInBounds_toArray, List.set_cons_zero, List.set_cons_succ]
  refine wpAnyH_done (by kernel_rfl) ?_ _
  go_upto_region 8 with fail
  go_cut [5, 6] (fun s t wz => ∃ g, s = .pointer (some ⟨g, 0, none⟩) ∧ t = .bool true ∧ Mem w wz [(w0.heap.size, 23, a16 bs), (wb.heap.size, 23, #[.int .u8 32, .int .u8 1, .int .u8 13, .int .u8 184, .int .u8 192, .int .u8 0, .int .u8 2, .int .u8 33, .int .u8 0, .int .u8 0, .int .u8 0, .int .u8 0, .int .u8 0, .int .u8 0, .int .u8 0, .int .u8 0, .int .u8 32, .int .u8 1, .int .u8 13, .int .u8 184, .int .u8 1, .int .u8 192, .int .u8 0, .int .u8 2, .int .u8 0, .int .u8 33, .int .u8 0, .int .u8 0, .int .u8 0, .int .u8 0, .int .u8 0, .int .u8 0, .int .u8 32, .int .u8 1, .int .u8 13, .int .u8 184, .int .u8 1, .int .u8 34, .int .u8 192, .int .u8 0, .int .u8 0, .int .u8 2, .int .u8 33, .int .u8 0, .int .u8 0, .int .u8 0, .int .u8 0, .int .u8 0, .int .u8 32, .int .u8 1, .int .u8 13, .int .u8 184, .int .u8 1, .int .u8 34, .int .u8 3, .int .u8 192, .int .u8 0, .int .u8 0, .int .u8 2, .int .u8 33, .int .u8 0, .int .u8 0, .int .u8 0, .int .u8 0, .int .u8 32, .int .u8 1, .int .u8 13, .int .u8 184, .int .u8 1, .int .u8 34, .int .u8 3, .int .u8 68, .int .u8 0, .int .u8 192, .int .u8 0, .int .u8 2, .int .u8 33, .int .u8 0, .int .u8 0, .int .u8 0]), (wr1.heap.size, 26, netC (kp 1) 40), (g, 23, (a16 (emb (kp 1) hA 40)))])
  case first =>
    refine wp_region_held_drew (S := fun w' => Mem w w' [(w0.heap.size, 23, a16 bs), (wb.heap.size, 23, #[.int .u8 32, .int .u8 1, .int .u8 13, .int .u8 184, .int .u8 192, .int .u8 0, .int .u8 2, .int .u8 33, .int .u8 0, .int .u8 0, .int .u8 0, .int .u8 0, .int .u8 0, .int .u8 0, .int .u8 0, .int .u8 0, .int .u8 32, .int .u8 1, .int .u8 13, .int .u8 184, .int .u8 1, .int .u8 192, .int .u8 0, .int .u8 2, .int .u8 0, .int .u8 33, .int .u8 0, .int .u8 0, .int .u8 0, .int .u8 0, .int .u8 0, .int .u8 0, .int .u8 32, .int .u8 1, .int .u8 13, .int .u8 184, .int .u8 1, .int .u8 34, .int .u8 192, .int .u8 0, .int .u8 0, .int .u8 2, .int .u8 33, .int .u8 0, .int .u8 0, .int .u8 0, .int .u8 0, .int .u8 0, .int .u8 32, .int .u8 1, .int .u8 13, .int .u8 184, .int .u8 1, .int .u8 34, .int .u8 3, .int .u8 192, .int .u8 0, .int .u8 0, .int .u8 2, .int .u8 33, .int .u8 0, .int .u8 0, .int .u8 0, .int .u8 0, .int .u8 32, .int .u8 1, .int .u8 13, .int .u8 184, .int .u8 1, .int .u8 34, .int .u8 3, .int .u8 68, .int .u8 0, .int .u8 192, .int .u8 0, .int .u8 2, .int .u8 33, .int .u8 0, .int .u8 0, .int .u8 0]), (wr1.heap.size, 26, netC (kp 1) 40)]) (by kernel_rfl) MC1.drew (fun M5 => ?_)
    refine tk (i := 0) rfl (some 32) rfl (by kernel_rfl) (by kernel_rfl) (by kernel_rfl) (fun _ _ _ h => h) (yi_row 2 26 (.tmp 4) rfl rfl rfl rfl Try.underlying26 rfl (by kernel_rfl)) M5 ?_
    try simp only [Act.put, List.setIfInBounds_toArray, List.set_cons_zero, List.set_cons_succ]
    refine wpAnyH_ready (rs := [1, 6]) (by kernel_rfl) (by simp) ?_
    refine br_call rfl rfl (some 33) rfl (host_any _) (by kernel_rfl) (fun w' hb => M5.call hb) (fun y1 hb1 => ?_) ?_
    · have yn1 := M5.call hb1
      clear hb1
      try simp only [Act.put, List.setIfInBounds_toArray, List.set_cons_zero, List.set_cons_succ]
      refine wpAnyH_ready (rs := [2, 6]) (by kernel_rfl) (by simp) ?_
      refine br_call rfl rfl (some 34) rfl (c10_1 _) (by kernel_rfl) (fun w' hb => yn1.call hb) (fun y2 hb2 => ?_) ?_
      · have yn2 := yn1.call hb2
        clear hb2
        try simp only [Act.put, List.setIfInBounds_toArray, List.set_cons_zero, List.set_cons_succ]
        refine tk (i := 3) (v := ?_) rfl (some 31) rfl (by kernel_rfl) (by kernel_rfl) (by kernel_rfl) (fun _ _ _ h => h) (Or.inl ⟨by rfl, ?_⟩) yn2 ?_
        rotate_left
        · intro w hS; go_simp; try with_reducible rfl
        try simp only [Act.put, List.setIfInBounds_toArray, List.set_cons_zero, List.set_cons_succ]
        refine tk (i := 4) (v := ?_) rfl (some 35) rfl (by kernel_rfl) (by kernel_rfl) (by kernel_rfl) (fun _ _ _ h => h) (Or.inl ⟨by rfl, ?_⟩) yn2 ?_
        rotate_left
        · intro w hS; go_simp; try with_reducible rfl
        try simp only [Act.put, List.setIfInBounds_toArray, List.set_cons_zero, List.set_cons_succ]
        refine tk (i := 5) (v := ?_) rfl (some 36) rfl (by kernel_rfl) (by kernel_rfl) (by kernel_rfl) (fun _ _ _ h => h) (Or.inl ⟨by rfl, ?_⟩) yn2 ?_
        rotate_left
        · intro w hS; go_simp; try with_reducible rfl
        try simp only [Act.put, List.setIfInBounds_toArray, List.set_cons_zero, List.set_cons_succ]
        refine wpAnyH_ready (rs := [6]) (by kernel_rfl) (by simp) ?_
        refine br_alloc rfl rfl (some 5) rfl #[.int .u8 0, .int .u8 0, .int .u8 0, .int .u8 0, .int .u8 0, .int .u8 0, .int .u8 0, .int .u8 0, .int .u8 0, .int .u8 0, .int .u8 0, .int .u8 0, .int .u8 0, .int .u8 0, .int .u8 0, .int .u8 0] 23 (by kernel_rfl) (yn2.alloc _) ?_ ?_
        · have yn3 := yn2.new rfl 23 #[.int .u8 0, .int .u8 0, .int .u8 0, .int .u8 0, .int .u8 0, .int .u8 0, .int .u8 0, .int .u8 0, .int .u8 0, .int .u8 0, .int .u8 0, .int .u8 0, .int .u8 0, .int .u8 0, .int .u8 0, .int .u8 0]
          try simp only [Act.put, List.setIfInBounds_toArray, List.set_cons_zero, List.set_cons_succ]
          refine wpAnyH_ready (rs := [7]) (by kernel_rfl) (by simp) ?_
          refine br_store yn3 3 rfl rfl 23 (.tmp 5) _ rfl rfl rfl rfl (a16 (emb (kp 1) hA 40)) rfl (by kernel_rfl) rfl (by kernel_rfl) _ rfl (fun w' M' => Mem.init (l := [(w0.heap.size, 23, a16 bs), (wb.heap.size, 23, #[.int .u8 32, .int .u8 1, .int .u8 13, .int .u8 184, .int .u8 192, .int .u8 0, .int .u8 2, .int .u8 33, .int .u8 0, .int .u8 0, .int .u8 0, .int .u8 0, .int .u8 0, .int .u8 0, .int .u8 0, .int .u8 0, .int .u8 32, .int .u8 1, .int .u8 13, .int .u8 184, .int .u8 1, .int .u8 192, .int .u8 0, .int .u8 2, .int .u8 0, .int .u8 33, .int .u8 0, .int .u8 0, .int .u8 0, .int .u8 0, .int .u8 0, .int .u8 0, .int .u8 32, .int .u8 1, .int .u8 13, .int .u8 184, .int .u8 1, .int .u8 34, .int .u8 192, .int .u8 0, .int .u8 0, .int .u8 2, .int .u8 33, .int .u8 0, .int .u8 0, .int .u8 0, .int .u8 0, .int .u8 0, .int .u8 32, .int .u8 1, .int .u8 13, .int .u8 184, .int .u8 1, .int .u8 34, .int .u8 3, .int .u8 192, .int .u8 0, .int .u8 0, .int .u8 2, .int .u8 33, .int .u8 0, .int .u8 0, .int .u8 0, .int .u8 0, .int .u8 32, .int .u8 1, .int .u8 13, .int .u8 184, .int .u8 1, .int .u8 34, .int .u8 3, .int .u8 68, .int .u8 0, .int .u8 192, .int .u8 0, .int .u8 2, .int .u8 33, .int .u8 0, .int .u8 0, .int .u8 0]), (wr1.heap.size, 26, netC (kp 1) 40)]) M') (fun y4 yn4 => ?_) ?_
          · try simp only [Act.put, List.setIfInBounds_toArray, List.set_cons_zero, List.set_cons_succ]
            refine tk (i := 8) (v := ?_) rfl (some 6) rfl (by kernel_rfl) (by kernel_rfl) (by kernel_rfl) (fun _ _ _ h => h) (Or.inl ⟨by rfl, ?_⟩) (Mem.init (l := [(w0.heap.size, 23, a16 bs), (wb.heap.size, 23, #[.int .u8 32, .int .u8 1, .int .u8 13, .int .u8 184, .int .u8 192, .int .u8 0, .int .u8 2, .int .u8 33, .int .u8 0, .int .u8 0, .int .u8 0, .int .u8 0, .int .u8 0, .int .u8 0, .int .u8 0, .int .u8 0, .int .u8 32, .int .u8 1, .int .u8 13, .int .u8 184, .int .u8 1, .int .u8 192, .int .u8 0, .int .u8 2, .int .u8 0, .int .u8 33, .int .u8 0, .int .u8 0, .int .u8 0, .int .u8 0, .int .u8 0, .int .u8 0, .int .u8 32, .int .u8 1, .int .u8 13, .int .u8 184, .int .u8 1, .int .u8 34, .int .u8 192, .int .u8 0, .int .u8 0, .int .u8 2, .int .u8 33, .int .u8 0, .int .u8 0, .int .u8 0, .int .u8 0, .int .u8 0, .int .u8 32, .int .u8 1, .int .u8 13, .int .u8 184, .int .u8 1, .int .u8 34, .int .u8 3, .int .u8 192, .int .u8 0, .int .u8 0, .int .u8 2, .int .u8 33, .int .u8 0, .int .u8 0, .int .u8 0, .int .u8 0, .int .u8 32, .int .u8 1, .int .u8 13, .int .u8 184, .int .u8 1, .int .u8 34, .int .u8 3, .int .u8 68, .int .u8 0, .int .u8 192, .int .u8 0, .int .u8 2, .int .u8 33, .int .u8 0, .int .u8 0, .int .u8 0]), (wr1.heap.size, 26, netC (kp 1) 40)]) yn4) ?_
            rotate_left
            · intro w hS; go_simp; try with_reducible rfl
            try simp only [Act.put, List.setIfInBounds_toArray, List.set_cons_zero, List.set_cons_succ]
            refine wpAnyH_done (by kernel_rfl) ?_ _
            go_wp2_with fail
            go_meet
            case rel => exact ⟨_, rfl, rfl, yn4⟩
          exact AllReadyH.nil
        exact AllReadyH.nil
      refine br_alloc rfl rfl (some 5) rfl #[.int .u8 0, .int .u8 0, .int .u8 0, .int .u8 0, .int .u8 0, .int .u8 0, .int .u8 0, .int .u8 0, .int .u8 0, .int .u8 0, .int .u8 0, .int .u8 0, .int .u8 0, .int .u8 0, .int .u8 0, .int .u8 0] 23 (by kernel_rfl) (yn1.alloc _) ?_ ?_
      · have yn5 := yn1.new rfl 23 #[.int .u8 0, .int .u8 0, .int .u8 0, .int .u8 0, .int .u8 0, .int .u8 0, .int .u8 0, .int .u8 0, .int .u8 0, .int .u8 0, .int .u8 0, .int .u8 0, .int .u8 0, .int .u8 0, .int .u8 0, .int .u8 0]
        try simp only [Act.put, List.setIfInBounds_toArray, List.set_cons_zero, List.set_cons_succ]
        refine wpAnyH_ready (rs := [2]) (by kernel_rfl) (by simp) ?_
        refine br_call rfl rfl (some 34) rfl (c10_1 _) (by kernel_rfl) (fun w' hb => Mem.init (l := [(w0.heap.size, 23, a16 bs), (wb.heap.size, 23, #[.int .u8 32, .int .u8 1, .int .u8 13, .int .u8 184, .int .u8 192, .int .u8 0, .int .u8 2, .int .u8 33, .int .u8 0, .int .u8 0, .int .u8 0, .int .u8 0, .int .u8 0, .int .u8 0, .int .u8 0, .int .u8 0, .int .u8 32, .int .u8 1, .int .u8 13, .int .u8 184, .int .u8 1, .int .u8 192, .int .u8 0, .int .u8 2, .int .u8 0, .int .u8 33, .int .u8 0, .int .u8 0, .int .u8 0, .int .u8 0, .int .u8 0, .int .u8 0, .int .u8 32, .int .u8 1, .int .u8 13, .int .u8 184, .int .u8 1, .int .u8 34, .int .u8 192, .int .u8 0, .int .u8 0, .int .u8 2, .int .u8 33, .int .u8 0, .int .u8 0, .int .u8 0, .int .u8 0, .int .u8 0, .int .u8 32, .int .u8 1, .int .u8 13, .int .u8 184, .int .u8 1, .int .u8 34, .int .u8 3, .int .u8 192, .int .u8 0, .int .u8 0, .int .u8 2, .int .u8 33, .int .u8 0, .int .u8 0, .int .u8 0, .int .u8 0, .int .u8 32, .int .u8 1, .int .u8 13, .int .u8 184, .int .u8 1, .int .u8 34, .int .u8 3, .int .u8 68, .int .u8 0, .int .u8 192, .int .u8 0, .int .u8 2, .int .u8 33, .int .u8 0, .int .u8 0, .int .u8 0]), (wr1.heap.size, 26, netC (kp 1) 40)]) (yn5.call hb)) (fun y6 hb6 => ?_) ?_
        · have yn6 := yn5.call hb6
          clear hb6
          try simp only [Act.put, List.setIfInBounds_toArray, List.set_cons_zero, List.set_cons_succ]
          refine tk (i := 3) (v := ?_) rfl (some 31) rfl (by kernel_rfl) (by kernel_rfl) (by kernel_rfl) (fun _ _ _ h => h) (Or.inl ⟨by rfl, ?_⟩) (Mem.init (l := [(w0.heap.size, 23, a16 bs), (wb.heap.size, 23, #[.int .u8 32, .int .u8 1, .int .u8 13, .int .u8 184, .int .u8 192, .int .u8 0, .int .u8 2, .int .u8 33, .int .u8 0, .int .u8 0, .int .u8 0, .int .u8 0, .int .u8 0, .int .u8 0, .int .u8 0, .int .u8 0, .int .u8 32, .int .u8 1, .int .u8 13, .int .u8 184, .int .u8 1, .int .u8 192, .int .u8 0, .int .u8 2, .int .u8 0, .int .u8 33, .int .u8 0, .int .u8 0, .int .u8 0, .int .u8 0, .int .u8 0, .int .u8 0, .int .u8 32, .int .u8 1, .int .u8 13, .int .u8 184, .int .u8 1, .int .u8 34, .int .u8 192, .int .u8 0, .int .u8 0, .int .u8 2, .int .u8 33, .int .u8 0, .int .u8 0, .int .u8 0, .int .u8 0, .int .u8 0, .int .u8 32, .int .u8 1, .int .u8 13, .int .u8 184, .int .u8 1, .int .u8 34, .int .u8 3, .int .u8 192, .int .u8 0, .int .u8 0, .int .u8 2, .int .u8 33, .int .u8 0, .int .u8 0, .int .u8 0, .int .u8 0, .int .u8 32, .int .u8 1, .int .u8 13, .int .u8 184, .int .u8 1, .int .u8 34, .int .u8 3, .int .u8 68, .int .u8 0, .int .u8 192, .int .u8 0, .int .u8 2, .int .u8 33, .int .u8 0, .int .u8 0, .int .u8 0]), (wr1.heap.size, 26, netC (kp 1) 40)]) yn6) ?_
          rotate_left
          · intro w hS; go_simp; try with_reducible rfl
          try simp only [Act.put, List.setIfInBounds_toArray, List.set_cons_zero, List.set_cons_succ]
          refine tk (i := 4) (v := ?_) rfl (some 35) rfl (by kernel_rfl) (by kernel_rfl) (by kernel_rfl) (fun _ _ _ h => h) (Or.inl ⟨by rfl, ?_⟩) (Mem.init (l := [(w0.heap.size, 23, a16 bs), (wb.heap.size, 23, #[.int .u8 32, .int .u8 1, .int .u8 13, .int .u8 184, .int .u8 192, .int .u8 0, .int .u8 2, .int .u8 33, .int .u8 0, .int .u8 0, .int .u8 0, .int .u8 0, .int .u8 0, .int .u8 0, .int .u8 0, .int .u8 0, .int .u8 32, .int .u8 1, .int .u8 13, .int .u8 184, .int .u8 1, .int .u8 192, .int .u8 0, .int .u8 2, .int .u8 0, .int .u8 33, .int .u8 0, .int .u8 0, .int .u8 0, .int .u8 0, .int .u8 0, .int .u8 0, .int .u8 32, .int .u8 1, .int .u8 13, .int .u8 184, .int .u8 1, .int .u8 34, .int .u8 192, .int .u8 0, .int .u8 0, .int .u8 2, .int .u8 33, .int .u8 0, .int .u8 0, .int .u8 0, .int .u8 0, .int .u8 0, .int .u8 32, .int .u8 1, .int .u8 13, .int .u8 184, .int .u8 1, .int .u8 34, .int .u8 3, .int .u8 192, .int .u8 0, .int .u8 0, .int .u8 2, .int .u8 33, .int .u8 0, .int .u8 0, .int .u8 0, .int .u8 0, .int .u8 32, .int .u8 1, .int .u8 13, .int .u8 184, .int .u8 1, .int .u8 34, .int .u8 3, .int .u8 68, .int .u8 0, .int .u8 192, .int .u8 0, .int .u8 2, .int .u8 33, .int .u8 0, .int .u8 0, .int .u8 0]), (wr1.heap.size, 26, netC (kp 1) 40)]) yn6) ?_
          rotate_left
          · intro w hS; go_simp; try with_reducible rfl
          try simp only [Act.put, List.setIfInBounds_toArray, List.set_cons_zero, List.set_cons_succ]
          refine tk (i := 5) (v := ?_) rfl (some 36) rfl (by kernel_rfl) (by kernel_rfl) (by kernel_rfl) (fun _ _ _ h => h) (Or.inl ⟨by rfl, ?_⟩) (Mem.init (l := [(w0.heap.size, 23, a16 bs), (wb.heap.size, 23, #[.int .u8 32, .int .u8 1, .int .u8 13, .int .u8 184, .int .u8 192, .int .u8 0, .int .u8 2, .int .u8 33, .int .u8 0, .int .u8 0, .int .u8 0, .int .u8 0, .int .u8 0, .int .u8 0, .int .u8 0, .int .u8 0, .int .u8 32, .int .u8 1, .int .u8 13, .int .u8 184, .int .u8 1, .int .u8 192, .int .u8 0, .int .u8 2, .int .u8 0, .int .u8 33, .int .u8 0, .int .u8 0, .int .u8 0, .int .u8 0, .int .u8 0, .int .u8 0, .int .u8 32, .int .u8 1, .int .u8 13, .int .u8 184, .int .u8 1, .int .u8 34, .int .u8 192, .int .u8 0, .int .u8 0, .int .u8 2, .int .u8 33, .int .u8 0, .int .u8 0, .int .u8 0, .int .u8 0, .int .u8 0, .int .u8 32, .int .u8 1, .int .u8 13, .int .u8 184, .int .u8 1, .int .u8 34, .int .u8 3, .int .u8 192, .int .u8 0, .int .u8 0, .int .u8 2, .int .u8 33, .int .u8 0, .int .u8 0, .int .u8 0, .int .u8 0, .int .u8 32, .int .u8 1, .int .u8 13, .int .u8 184, .int .u8 1, .int .u8 34, .int .u8 3, .int .u8 68, .int .u8 0, .int .u8 192, .int .u8 0, .int .u8 2, .int .u8 33, .int .u8 0, .int .u8 0, .int .u8 0]), (wr1.heap.size, 26, netC (kp 1) 40)]) yn6) ?_
          rotate_left
          · intro w hS; go_simp; try with_reducible rfl
          try simp only [Act.put, List.setIfInBounds_toArray, List.set_cons_zero, List.set_cons_succ]
          refine wpAnyH_ready (rs := [7]) (by kernel_rfl) (by simp) ?_
          refine br_store yn6 3 rfl rfl 23 (.tmp 5) _ rfl rfl rfl rfl (a16 (emb (kp 1) hA 40)) rfl (by kernel_rfl) rfl (by kernel_rfl) _ rfl (fun w' M' => Mem.init (l := [(w0.heap.size, 23, a16 bs), (wb.heap.size, 23, #[.int .u8 32, .int .u8 1, .int .u8 13, .int .u8 184, .int .u8 192, .int .u8 0, .int .u8 2, .int .u8 33, .int .u8 0, .int .u8 0, .int .u8 0, .int .u8 0, .int .u8 0, .int .u8 0, .int .u8 0, .int .u8 0, .int .u8 32, .int .u8 1, .int .u8 13, .int .u8 184, .int .u8 1, .int .u8 192, .int .u8 0, .int .u8 2, .int .u8 0, .int .u8 33, .int .u8 0, .int .u8 0, .int .u8 0, .int .u8 0, .int .u8 0, .int .u8 0, .int .u8 32, .int .u8 1, .int .u8 13, .int .u8 184, .int .u8 1, .int .u8 34, .int .u8 192, .int .u8 0, .int .u8 0, .int .u8 2, .int .u8 33, .int .u8 0, .int .u8 0, .int .u8 0, .int .u8 0, .int .u8 0, .int .u8 32, .int .u8 1, .int .u8 13, .int .u8 184, .int .u8 1, .int .u8 34, .int .u8 3, .int .u8 192, .int .u8 0, .int .u8 0, .int .u8 2, .int .u8 33, .int .u8 0, .int .u8 0, .int .u8 0, .int .u8 0, .int .u8 32, .int .u8 1, .int .u8 13, .int .u8 184, .int .u8 1, .int .u8 34, .int .u8 3, .int .u8 68, .int .u8 0, .int .u8 192, .int .u8 0, .int .u8 2, .int .u8 33, .int .u8 0, .int .u8 0, .int .u8 0]), (wr1.heap.size, 26, netC (kp 1) 40)]) M') (fun y7 yn7 => ?_) ?_
          · try simp only [Act.put, List.setIfInBounds_toArray, List.set_cons_zero, List.set_cons_succ]
            refine tk (i := 8) (v := ?_) rfl (some 6) rfl (by kernel_rfl) (by kernel_rfl) (by kernel_rfl) (fun _ _ _ h => h) (Or.inl ⟨by rfl, ?_⟩) (Mem.init (l := [(w0.heap.size, 23, a16 bs), (wb.heap.size, 23, #[.int .u8 32, .int .u8 1, .int .u8 13, .int .u8 184, .int .u8 192, .int .u8 0, .int .u8 2, .int .u8 33, .int .u8 0, .int .u8 0, .int .u8 0, .int .u8 0, .int .u8 0, .int .u8 0, .int .u8 0, .int .u8 0, .int .u8 32, .int .u8 1, .int .u8 13, .int .u8 184, .int .u8 1, .int .u8 192, .int .u8 0, .int .u8 2, .int .u8 0, .int .u8 33, .int .u8 0, .int .u8 0, .int .u8 0, .int .u8 0, .int .u8 0, .int .u8 0, .int .u8 32, .int .u8 1, .int .u8 13, .int .u8 184, .int .u8 1, .int .u8 34, .int .u8 192, .int .u8 0, .int .u8 0, .int .u8 2, .int .u8 33, .int .u8 0, .int .u8 0, .int .u8 0, .int .u8 0, .int .u8 0, .int .u8 32, .int .u8 1, .int .u8 13, .int .u8 184, .int .u8 1, .int .u8 34, .int .u8 3, .int .u8 192, .int .u8 0, .int .u8 0, .int .u8 2, .int .u8 33, .int .u8 0, .int .u8 0, .int .u8 0, .int .u8 0, .int .u8 32, .int .u8 1, .int .u8 13, .int .u8 184, .int .u8 1, .int .u8 34, .int .u8 3, .int .u8 68, .int .u8 0, .int .u8 192, .int .u8 0, .int .u8 2, .int .u8 33, .int .u8 0, .int .u8 0, .int .u8 0]), (wr1.heap.size, 26, netC (kp 1) 40)]) yn7) ?_
            rotate_left
            · intro w hS; go_simp; try with_reducible rfl
            try simp only [Act.put, List.setIfInBounds_toArray, List.set_cons_zero, List.set_cons_succ]
            refine wpAnyH_done (by kernel_rfl) ?_ _
            go_wp2_with fail
            go_meet
            case rel => exact ⟨_, rfl, rfl, yn7⟩
          exact AllReadyH.nil
        exact AllReadyH.nil
      exact AllReadyH.nil
    refine br_alloc rfl rfl (some 5) rfl #[.int .u8 0, .int .u8 0, .int .u8 0, .int .u8 0, .int .u8 0, .int .u8 0, .int .u8 0, .int .u8 0, .int .u8 0, .int .u8 0, .int .u8 0, .int .u8 0, .int .u8 0, .int .u8 0, .int .u8 0, .int .u8 0] 23 (by kernel_rfl) (M5.alloc _) ?_ ?_
    · have yn8 := M5.new rfl 23 #[.int .u8 0, .int .u8 0, .int .u8 0, .int .u8 0, .int .u8 0, .int .u8 0, .int .u8 0, .int .u8 0, .int .u8 0, .int .u8 0, .int .u8 0, .int .u8 0, .int .u8 0, .int .u8 0, .int .u8 0, .int .u8 0]
      try simp only [Act.put, List.setIfInBounds_toArray, List.set_cons_zero, List.set_cons_succ]
      refine wpAnyH_ready (rs := [1]) (by kernel_rfl) (by simp) ?_
      refine br_call rfl rfl (some 33) rfl (host_any _) (by kernel_rfl) (fun w' hb => Mem.init (l := [(w0.heap.size, 23, a16 bs), (wb.heap.size, 23, #[.int .u8 32, .int .u8 1, .int .u8 13, .int .u8 184, .int .u8 192, .int .u8 0, .int .u8 2, .int .u8 33, .int .u8 0, .int .u8 0, .int .u8 0, .int .u8 0, .int .u8 0, .int .u8 0, .int .u8 0, .int .u8 0, .int .u8 32, .int .u8 1, .int .u8 13, .int .u8 184, .int .u8 1, .int .u8 192, .int .u8 0, .int .u8 2, .int .u8 0, .int .u8 33, .int .u8 0, .int .u8 0, .int .u8 0, .int .u8 0, .int .u8 0, .int .u8 0, .int .u8 32, .int .u8 1, .int .u8 13, .int .u8 184, .int .u8 1, .int .u8 34, .int .u8 192, .int .u8 0, .int .u8 0, .int .u8 2, .int .u8 33, .int .u8 0, .int .u8 0, .int .u8 0, .int .u8 0, .int .u8 0, .int .u8 32, .int .u8 1, .int .u8 13, .int .u8 184, .int .u8 1, .int .u8 34, .int .u8 3, .int .u8 192, .int .u8 0, .int .u8 0, .int .u8 2, .int .u8 33, .int .u8 0, .int .u8 0, .int .u8 0, .int .u8 0, .int .u8 32, .int .u8 1, .int .u8 13, .int .u8 184, .int .u8 1, .int .u8 34, .int .u8 3, .int .u8 68, .int .u8 0, .int .u8 192, .int .u8 0, .int .u8 2, .int .u8 33, .int .u8 0, .int .u8 0, .int .u8 0]), (wr1.heap.size, 26, netC (kp 1) 40)]) (yn8.call hb)) (fun y9 hb9 => ?_) ?_
      · have yn9 := yn8.call hb9
        clear hb9
        try simp only [Act.put, List.setIfInBounds_toArray, List.set_cons_zero, List.set_cons_succ]
        refine wpAnyH_ready (rs := [2]) (by kernel_rfl) (by simp) ?_
        refine br_call rfl rfl (some 34) rfl (c10_1 _) (by kernel_rfl) (fun w' hb => Mem.init (l := [(w0.heap.size, 23, a16 bs), (wb.heap.size, 23, #[.int .u8 32, .int .u8 1, .int .u8 13, .int .u8 184, .int .u8 192, .int .u8 0, .int .u8 2, .int .u8 33, .int .u8 0, .int .u8 0, .int .u8 0, .int .u8 0, .int .u8 0, .int .u8 0, .int .u8 0, .int .u8 0, .int .u8 32, .int .u8 1, .int .u8 13, .int .u8 184, .int .u8 1, .int .u8 192, .int .u8 0, .int .u8 2, .int .u8 0, .int .u8 33, .int .u8 0, .int .u8 0, .int .u8 0, .int .u8 0, .int .u8 0, .int .u8 0, .int .u8 32, .int .u8 1, .int .u8 13, .int .u8 184, .int .u8 1, .int .u8 34, .int .u8 192, .int .u8 0, .int .u8 0, .int .u8 2, .int .u8 33, .int .u8 0, .int .u8 0, .int .u8 0, .int .u8 0, .int .u8 0, .int .u8 32, .int .u8 1, .int .u8 13, .int .u8 184, .int .u8 1, .int .u8 34, .int .u8 3, .int .u8 192, .int .u8 0, .int .u8 0, .int .u8 2, .int .u8 33, .int .u8 0, .int .u8 0, .int .u8 0, .int .u8 0, .int .u8 32, .int .u8 1, .int .u8 13, .int .u8 184, .int .u8 1, .int .u8 34, .int .u8 3, .int .u8 68, .int .u8 0, .int .u8 192, .int .u8 0, .int .u8 2, .int .u8 33, .int .u8 0, .int .u8 0, .int .u8 0]), (wr1.heap.size, 26, netC (kp 1) 40)]) (yn9.call hb)) (fun y10 hb10 => ?_) ?_
        · have yn10 := yn9.call hb10
          clear hb10
          try simp only [Act.put, List.setIfInBounds_toArray, List.set_cons_zero, List.set_cons_succ]
          refine tk (i := 3) (v := ?_) rfl (some 31) rfl (by kernel_rfl) (by kernel_rfl) (by kernel_rfl) (fun _ _ _ h => h) (Or.inl ⟨by rfl, ?_⟩) (Mem.init (l := [(w0.heap.size, 23, a16 bs), (wb.heap.size, 23, #[.int .u8 32, .int .u8 1, .int .u8 13, .int .u8 184, .int .u8 192, .int .u8 0, .int .u8 2, .int .u8 33, .int .u8 0, .int .u8 0, .int .u8 0, .int .u8 0, .int .u8 0, .int .u8 0, .int .u8 0, .int .u8 0, .int .u8 32, .int .u8 1, .int .u8 13, .int .u8 184, .int .u8 1, .int .u8 192, .int .u8 0, .int .u8 2, .int .u8 0, .int .u8 33, .int .u8 0, .int .u8 0, .int .u8 0, .int .u8 0, .int .u8 0, .int .u8 0, .int .u8 32, .int .u8 1, .int .u8 13, .int .u8 184, .int .u8 1, .int .u8 34, .int .u8 192, .int .u8 0, .int .u8 0, .int .u8 2, .int .u8 33, .int .u8 0, .int .u8 0, .int .u8 0, .int .u8 0, .int .u8 0, .int .u8 32, .int .u8 1, .int .u8 13, .int .u8 184, .int .u8 1, .int .u8 34, .int .u8 3, .int .u8 192, .int .u8 0, .int .u8 0, .int .u8 2, .int .u8 33, .int .u8 0, .int .u8 0, .int .u8 0, .int .u8 0, .int .u8 32, .int .u8 1, .int .u8 13, .int .u8 184, .int .u8 1, .int .u8 34, .int .u8 3, .int .u8 68, .int .u8 0, .int .u8 192, .int .u8 0, .int .u8 2, .int .u8 33, .int .u8 0, .int .u8 0, .int .u8 0]), (wr1.heap.size, 26, netC (kp 1) 40)]) yn10) ?_
          rotate_left
          · intro w hS; go_simp; try with_reducible rfl
          try simp only [Act.put, List.setIfInBounds_toArray, List.set_cons_zero, List.set_cons_succ]
          refine tk (i := 4) (v := ?_) rfl (some 35) rfl (by kernel_rfl) (by kernel_rfl) (by kernel_rfl) (fun _ _ _ h => h) (Or.inl ⟨by rfl, ?_⟩) (Mem.init (l := [(w0.heap.size, 23, a16 bs), (wb.heap.size, 23, #[.int .u8 32, .int .u8 1, .int .u8 13, .int .u8 184, .int .u8 192, .int .u8 0, .int .u8 2, .int .u8 33, .int .u8 0, .int .u8 0, .int .u8 0, .int .u8 0, .int .u8 0, .int .u8 0, .int .u8 0, .int .u8 0, .int .u8 32, .int .u8 1, .int .u8 13, .int .u8 184, .int .u8 1, .int .u8 192, .int .u8 0, .int .u8 2, .int .u8 0, .int .u8 33, .int .u8 0, .int .u8 0, .int .u8 0, .int .u8 0, .int .u8 0, .int .u8 0, .int .u8 32, .int .u8 1, .int .u8 13, .int .u8 184, .int .u8 1, .int .u8 34, .int .u8 192, .int .u8 0, .int .u8 0, .int .u8 2, .int .u8 33, .int .u8 0, .int .u8 0, .int .u8 0, .int .u8 0, .int .u8 0, .int .u8 32, .int .u8 1, .int .u8 13, .int .u8 184, .int .u8 1, .int .u8 34, .int .u8 3, .int .u8 192, .int .u8 0, .int .u8 0, .int .u8 2, .int .u8 33, .int .u8 0, .int .u8 0, .int .u8 0, .int .u8 0, .int .u8 32, .int .u8 1, .int .u8 13, .int .u8 184, .int .u8 1, .int .u8 34, .int .u8 3, .int .u8 68, .int .u8 0, .int .u8 192, .int .u8 0, .int .u8 2, .int .u8 33, .int .u8 0, .int .u8 0, .int .u8 0]), (wr1.heap.size, 26, netC (kp 1) 40)]) yn10) ?_
          rotate_left
          · intro w hS; go_simp; try with_reducible rfl
          try simp only [Act.put, List.setIfInBounds_toArray, List.set_cons_zero, List.set_cons_succ]
          refine tk (i := 5) (v := ?_) rfl (some 36) rfl (by kernel_rfl) (by kernel_rfl) (by kernel_rfl) (fun _ _ _ h => h) (Or.inl ⟨by rfl, ?_⟩) (Mem.init (l := [(w0.heap.size, 23, a16 bs), (wb.heap.size, 23, #[.int .u8 32, .int .u8 1, .int .u8 13, .int .u8 184, .int .u8 192, .int .u8 0, .int .u8 2, .int .u8 33, .int .u8 0, .int .u8 0, .int .u8 0, .int .u8 0, .int .u8 0, .int .u8 0, .int .u8 0, .int .u8 0, .int .u8 32, .int .u8 1, .int .u8 13, .int .u8 184, .int .u8 1, .int .u8 192, .int .u8 0, .int .u8 2, .int .u8 0, .int .u8 33, .int .u8 0, .int .u8 0, .int .u8 0, .int .u8 0, .int .u8 0, .int .u8 0, .int .u8 32, .int .u8 1, .int .u8 13, .int .u8 184, .int .u8 1, .int .u8 34, .int .u8 192, .int .u8 0, .int .u8 0, .int .u8 2, .int .u8 33, .int .u8 0, .int .u8 0, .int .u8 0, .int .u8 0, .int .u8 0, .int .u8 32, .int .u8 1, .int .u8 13, .int .u8 184, .int .u8 1, .int .u8 34, .int .u8 3, .int .u8 192, .int .u8 0, .int .u8 0, .int .u8 2, .int .u8 33, .int .u8 0, .int .u8 0, .int .u8 0, .int .u8 0, .int .u8 32, .int .u8 1, .int .u8 13, .int .u8 184, .int .u8 1, .int .u8 34, .int .u8 3, .int .u8 68, .int .u8 0, .int .u8 192, .int .u8 0, .int .u8 2, .int .u8 33, .int .u8 0, .int .u8 0, .int .u8 0]), (wr1.heap.size, 26, netC (kp 1) 40)]) yn10) ?_
          rotate_left
          · intro w hS; go_simp; try with_reducible rfl
          try simp only [Act.put, List.setIfInBounds_toArray, List.set_cons_zero, List.set_cons_succ]
          refine wpAnyH_ready (rs := [7]) (by kernel_rfl) (by simp) ?_
          refine br_store yn10 3 rfl rfl 23 (.tmp 5) _ rfl rfl rfl rfl (a16 (emb (kp 1) hA 40)) rfl (by kernel_rfl) rfl (by kernel_rfl) _ rfl (fun w' M' => Mem.init (l := [(w0.heap.size, 23, a16 bs), (wb.heap.size, 23, #[.int .u8 32, .int .u8 1, .int .u8 13, .int .u8 184, .int .u8 192, .int .u8 0, .int .u8 2, .int .u8 33, .int .u8 0, .int .u8 0, .int .u8 0, .int .u8 0, .int .u8 0, .int .u8 0, .int .u8 0, .int .u8 0, .int .u8 32, .int .u8 1, .int .u8 13, .int .u8 184, .int .u8 1, .int .u8 192, .int .u8 0, .int .u8 2, .int .u8 0, .int .u8 33, .int .u8 0, .int .u8 0, .int .u8 0, .int .u8 0, .int .u8 0, .int .u8 0, .int .u8 32, .int .u8 1, .int .u8 13, .int .u8 184, .int .u8 1, .int .u8 34, .int .u8 192, .int .u8 0, .int .u8 0, .int .u8 2, .int .u8 33, .int .u8 0, .int .u8 0, .int .u8 0, .int .u8 0, .int .u8 0, .int .u8 32, .int .u8 1, .int .u8 13, .int .u8 184, .int .u8 1, .int .u8 34, .int .u8 3, .int .u8 192, .int .u8 0, .int .u8 0, .int .u8 2, .int .u8 33, .int .u8 0, .int .u8 0, .int .u8 0, .int .u8 0, .int .u8 32, .int .u8 1, .int .u8 13, .int .u8 184, .int .u8 1, .int .u8 34, .int .u8 3, .int .u8 68, .int .u8 0, .int .u8 192, .int .u8 0, .int .u8 2, .int .u8 33, .int .u8 0, .int .u8 0, .int .u8 0]), (wr1.heap.size, 26, netC (kp 1) 40)]) M') (fun y11 yn11 => ?_) ?_
          · try simp only [Act.put, List.setIfInBounds_toArray, List.set_cons_zero, List.set_cons_succ]
            refine tk (i := 8) (v := ?_) rfl (some 6) rfl (by kernel_rfl) (by kernel_rfl) (by kernel_rfl) (fun _ _ _ h => h) (Or.inl ⟨by rfl, ?_⟩) (Mem.init (l := [(w0.heap.size, 23, a16 bs), (wb.heap.size, 23, #[.int .u8 32, .int .u8 1, .int .u8 13, .int .u8 184, .int .u8 192, .int .u8 0, .int .u8 2, .int .u8 33, .int .u8 0, .int .u8 0, .int .u8 0, .int .u8 0, .int .u8 0, .int .u8 0, .int .u8 0, .int .u8 0, .int .u8 32, .int .u8 1, .int .u8 13, .int .u8 184, .int .u8 1, .int .u8 192, .int .u8 0, .int .u8 2, .int .u8 0, .int .u8 33, .int .u8 0, .int .u8 0, .int .u8 0, .int .u8 0, .int .u8 0, .int .u8 0, .int .u8 32, .int .u8 1, .int .u8 13, .int .u8 184, .int .u8 1, .int .u8 34, .int .u8 192, .int .u8 0, .int .u8 0, .int .u8 2, .int .u8 33, .int .u8 0, .int .u8 0, .int .u8 0, .int .u8 0, .int .u8 0, .int .u8 32, .int .u8 1, .int .u8 13, .int .u8 184, .int .u8 1, .int .u8 34, .int .u8 3, .int .u8 192, .int .u8 0, .int .u8 0, .int .u8 2, .int .u8 33, .int .u8 0, .int .u8 0, .int .u8 0, .int .u8 0, .int .u8 32, .int .u8 1, .int .u8 13, .int .u8 184, .int .u8 1, .int .u8 34, .int .u8 3, .int .u8 68, .int .u8 0, .int .u8 192, .int .u8 0, .int .u8 2, .int .u8 33, .int .u8 0, .int .u8 0, .int .u8 0]), (wr1.heap.size, 26, netC (kp 1) 40)]) yn11) ?_
            rotate_left
            · intro w hS; go_simp; try with_reducible rfl
            try simp only [Act.put, List.setIfInBounds_toArray, List.set_cons_zero, List.set_cons_succ]
            refine wpAnyH_done (by kernel_rfl) ?_ _
            go_wp2_with fail
            go_meet
            case rel => exact ⟨_, rfl, rfl, yn11⟩
          exact AllReadyH.nil
        exact AllReadyH.nil
      exact AllReadyH.nil
    exact AllReadyH.nil
  obtain ⟨g5_1, rfl, rfl, MZ1⟩ := hcut
  clear MC1
  go_upto_region 9 with fail
  refine hide_l MZ1 (fun wy1 MY1 => ?_)
  clear MZ1
  refine wp_region_held_drew (S := fun w' => Mem w w' _) (by kernel_rfl) MY1.drew (fun _ => ?_)
  have MX1 := MY1.drew
  clear MY1
  refine tk (i := 0) (v := ?_) rfl (some 37) rfl (by kernel_rfl) (by kernel_rfl) (by kernel_rfl) (fun _ _ _ h => h) (Or.inl ⟨by kernel_rfl, ?_⟩) MX1 ?_
  rotate_left
  · intro w hS; go_simp; (try simp only [IntKind.wrap_i64, Int.reduceAdd, Int.reduceSub, Int.reduceMul, Int.reduceMod, Int.reducePow, Int.reduceNeg]); try with_reducible rfl
  try simp only [Act.put, List.setIfInBounds_toArray, List.set_cons_zero, List.set_cons_succ]
  refine tk (i := 1) (v := ?_) rfl (some 38) rfl (by kernel_rfl) (by kernel_rfl) (by kernel_rfl) (fun _ _ _ h => h) (Or.inl ⟨by kernel_rfl, ?_⟩) MX1 ?_
  rotate_left
  · intro w hS; go_simp; (try simp only [IntKind.wrap_i64, Int.reduceAdd, Int.reduceSub, Int.reduceMul, Int.reduceMod, Int.reducePow, Int.reduceNeg]); try with_reducible rfl
  try simp only [Act.put, List.setIfInBounds_toArray, List.set_cons_zero, List.set_cons_succ]
  refine tk (i := 2) (v := ?_) rfl (some 39) rfl (by kernel_rfl) (by kernel_rfl) (by kernel_rfl) (fun _ _ _ h => h) (Or.inl ⟨by kernel_rfl, ?_⟩) MX1 ?_
  rotate_left
  · intro w hS; go_simp; (try simp only [IntKind.wrap_i64, Int.reduceAdd, Int.reduceSub, Int.reduceMul, Int.reduceMod, Int.reducePow, Int.reduceNeg]); try with_reducible rfl
  try simp only [Act.put, List.setIfInBounds_toArray, List.set_cons_zero, List.set_cons_succ]
  refine tk (i := 3) rfl (some 40) rfl (by kernel_rfl) (by kernel_rfl) (by kernel_rfl) (fun _ _ _ h => h) (yi_row 3 23 (.tmp 5) rfl (by kernel_rfl) rfl rfl Try.underlying23 rfl (by kernel_rfl)) MX1 ?_
  try simp only [Act.put, List.setIfInBounds_toArray, List.set_cons_zero, List.set_cons_succ]
  refine tk (i := 4) (v := ?_) rfl (some 41) rfl (by kernel_rfl) (by kernel_rfl) (by kernel_rfl) (fun _ _ _ h => h) (Or.inl ⟨by kernel_rfl, ?_⟩) MX1 ?_
  rotate_left
  · intro w hS; go_simp; (try simp only [IntKind.wrap_i64, Int.reduceAdd, Int.reduceSub, Int.reduceMul, Int.reduceMod, Int.reducePow, Int.reduceNeg]); try with_reducible rfl
  try simp only [Act.put, List.setIfInBounds_toArray, List.set_cons_zero, List.set_cons_succ]
  refine tk (i := 5) (v := ?_) rfl (some 42) rfl (by kernel_rfl) (by kernel_rfl) (by kernel_rfl) (fun _ _ _ h => h) (Or.inl ⟨by kernel_rfl, ?_⟩) MX1 ?_
  rotate_left
  · intro w hS; go_simp; (try simp only [IntKind.wrap_i64, Int.reduceAdd, Int.reduceSub, Int.reduceMul, Int.reduceMod, Int.reducePow, Int.reduceNeg]); try with_reducible rfl
  try simp only [Act.put, List.setIfInBounds_toArray, List.set_cons_zero, List.set_cons_succ]
  refine tk (i := 6) (v := ?_) rfl (some 43) rfl (by kernel_rfl) (by kernel_rfl) (by kernel_rfl) (fun _ _ _ h => h) (Or.inl ⟨by kernel_rfl, ?_⟩) MX1 ?_
  rotate_left
  · intro w hS; go_simp; (try simp only [IntKind.wrap_i64, Int.reduceAdd, Int.reduceSub, Int.reduceMul, Int.reduceMod, Int.reducePow, Int.reduceNeg]); try with_reducible rfl
  try simp only [Act.put, List.setIfInBounds_toArray, List.set_cons_zero, List.set_cons_succ]
  refine tk (i := 7) rfl (some 44) rfl (by kernel_rfl) (by kernel_rfl) (by kernel_rfl) (fun _ _ _ h => h) (yi_part 1 23 (.tmp 43) rfl (by kernel_rfl) rfl 16 rfl #[.int .u8 32, .int .u8 1, .int .u8 13, .int .u8 184, .int .u8 1, .int .u8 192, .int .u8 0, .int .u8 2, .int .u8 0, .int .u8 33, .int .u8 0, .int .u8 0, .int .u8 0, .int .u8 0, .int .u8 0, .int .u8 0] Try.underlying23 rfl (by kernel_rfl) (by kernel_rfl)) MX1 ?_
  try simp only [Act.put, List.setIfInBounds_toArray, List.set_cons_zero, List.set_cons_succ]
  refine tk (i := 8) (v := ?_) rfl (some 45) rfl (by kernel_rfl) (by kernel_rfl) (by kernel_rfl) (fun _ _ _ h => h) (Or.inl ⟨by kernel_rfl, ?_⟩) MX1 ?_
  rotate_left
  · intro w hS; go_simp; (try simp only [IntKind.wrap_i64, Int.reduceAdd, Int.reduceSub, Int.reduceMul, Int.reduceMod, Int.reducePow, Int.reduceNeg]); try with_reducible rfl
  try simp only [Act.put, List.setIfInBounds_toArray, List.set_cons_zero, List.set_cons_succ]
  refine tk (i := 9) (v := ?_) rfl (some 46) rfl (by kernel_rfl) (by kernel_rfl) (by kernel_rfl) (fun _ _ _ h => h) (Or.inl ⟨by kernel_rfl, ?_⟩) MX1 ?_
  rotate_left
  · intro w hS; go_simp; (try simp only [IntKind.wrap_i64, Int.reduceAdd, Int.reduceSub, Int.reduceMul, Int.reduceMod, Int.reducePow, Int.reduceNeg]); try with_reducible rfl
  try simp only [Act.put, List.setIfInBounds_toArray, List.set_cons_zero, List.set_cons_succ]
  refine wpAnyH_done (by kernel_rfl) ?_ _
  go_upto_region 5 with fail
  refine wp_region_lit ?_
  refine lv (by kernel_rfl) (some 18) rfl (v := ?_) ?_ ?_
  rotate_left
  · go_simp; (try simp only [IntKind.wrap_i64, Int.reduceAdd, Int.reduceSub, Int.reduceMul, Int.reduceMod, Int.reducePow, Int.reduceNeg]); try with_reducible rfl
  try simp only [Act.put, List.setIfInBounds_toArray, List.set_cons_zero, List.set_cons_succ]
  refine lv (by kernel_rfl) (some 19) rfl (v := ?_) ?_ ?_
  rotate_left
  · go_simp; (try simp only [IntKind.wrap_i64, Int.reduceAdd, Int.reduceSub, Int.reduceMul, Int.reduceMod, Int.reducePow, Int.reduceNeg]); try with_reducible rfl
  try simp only [Act.put, List.setIfInBounds_toArray, List.set_cons_zero, List.set_cons_succ]
  refine lv (by kernel_rfl) (some 3) rfl (v := ?_) ?_ ?_
  rotate_left
  · go_simp; (try simp only [IntKind.wrap_i64, Int.reduceAdd, Int.reduceSub, Int.reduceMul, Int.reduceMod, Int.reducePow, Int.reduceNeg]); try with_reducible rfl
  try simp only [Act.put, List.setIfInBounds_toArray, List.set_cons_zero, List.set_cons_succ]
  refine wpList_nil ?_
  go_wp2_with fail
  have ME1 : Mem w _ [(w0.heap.size, 23, a16 bs), (wb.heap.size, 23, #[.int .u8 32, .int .u8 1, .int .u8 13, .int .u8 184, .int .u8 192, .int .u8 0, .int .u8 2, .int .u8 33, .int .u8 0, .int .u8 0, .int .u8 0, .int .u8 0, .int .u8 0, .int .u8 0, .int .u8 0, .int .u8 0, .int .u8 32, .int .u8 1, .int .u8 13, .int .u8 184, .int .u8 1, .int .u8 192, .int .u8 0, .int .u8 2, .int .u8 0, .int .u8 33, .int .u8 0, .int .u8 0, .int .u8 0, .int .u8 0, .int .u8 0, .int .u8 0, .int .u8 32, .int .u8 1, .int .u8 13, .int .u8 184, .int .u8 1, .int .u8 34, .int .u8 192, .int .u8 0, .int .u8 0, .int .u8 2, .int .u8 33, .int .u8 0, .int .u8 0, .int .u8 0, .int .u8 0, .int .u8 0, .int .u8 32, .int .u8 1, .int .u8 13, .int .u8 184, .int .u8 1, .int .u8 34, .int .u8 3, .int .u8 192, .int .u8 0, .int .u8 0, .int .u8 2, .int .u8 33, .int .u8 0, .int .u8 0, .int .u8 0, .int .u8 0, .int .u8 32, .int .u8 1, .int .u8 13, .int .u8 184, .int .u8 1, .int .u8 34, .int .u8 3, .int .u8 68, .int .u8 0, .int .u8 192, .int .u8 0, .int .u8 2, .int .u8 33, .int .u8 0, .int .u8 0, .int .u8 0])] := Mem.init (r := [_, _]) MX1
  clear MX1
  rw [rounds_succ]
  refine hide_l ME1 (fun wr2 MR2 => ?_)
  clear ME1
  go_upto_region 4 with fail
  refine wp_region_lit ?_
  refine lv (by kernel_rfl) (some 16) rfl (v := ?_) ?_ ?_
  rotate_left
  · go_simp; (try simp only [IntKind.wrap_i64, Int.reduceAdd, Int.reduceSub, Int.reduceMul, Int.reduceMod, Int.reducePow, Int.reduceNeg]); try with_reducible rfl
  try simp only [Act.put, List.setIfInBounds_toArray, List.set_cons_zero, List.set_cons_succ]
  refine lv (by kernel_rfl) (some 17) rfl (v := ?_) ?_ ?_
  rotate_left
  · go_simp; (try simp only [IntKind.wrap_i64, Int.reduceAdd, Int.reduceSub, Int.reduceMul, Int.reduceMod, Int.reducePow, Int.reduceNeg]); try with_reducible rfl
  try simp only [Act.put, List.setIfInBounds_toArray, List.set_cons_zero, List.set_cons_succ]
  refine wpList_nil ?_
  go_upto_region 6 with fail
  refine wp_region_lit ?_
  refine lv (by kernel_rfl) (some 20) rfl (v := ?_) ?_ ?_
  rotate_left
  · go_simp; (try simp only [IntKind.wrap_i64, Int.reduceAdd, Int.reduceSub, Int.reduceMul, Int.reduceMod, Int.reducePow, Int.reduceNeg]); try with_reducible rfl
  try simp only [Act.put, List.setIfInBounds_toArray, List.set_cons_zero, List.set_cons_succ]
  refine lv (by kernel_rfl) (some 21) rfl (v := ?_) ?_ ?_
  rotate_left
  · go_simp; (try simp only [IntKind.wrap_i64, Int.reduceAdd, Int.reduceSub, Int.reduceMul, Int.reduceMod, Int.reducePow, Int.reduceNeg]); try with_reducible rfl
  try simp only [Act.put, List.setIfInBounds_toArray, List.set_cons_zero, List.set_cons_succ]
  refine lv (by kernel_rfl) (some 22) rfl (v := ?_) ?_ ?_
  rotate_left
  · go_simp; (try simp only [IntKind.wrap_i64, Int.reduceAdd, Int.reduceSub, Int.reduceMul, Int.reduceMod, Int.reducePow, Int.reduceNeg]); try with_reducible rfl
  try simp only [Act.put, List.setIfInBounds_toArray, List.set_cons_zero, List.set_cons_succ]
  refine lv (by kernel_rfl) (some 23) rfl (v := ?_) ?_ ?_
  rotate_left
  · go_simp; (try simp only [IntKind.wrap_i64, Int.reduceAdd, Int.reduceSub, Int.reduceMul, Int.reduceMod, Int.reducePow, Int.reduceNeg]); try with_reducible rfl
  try simp only [Act.put, List.setIfInBounds_toArray, List.set_cons_zero, List.set_cons_succ]
  refine l_alloc (by kernel_rfl) (some 4) rfl #[.int .u8 0, .int .u8 0, .int .u8 0, .int .u8 0, .int .u8 0, .int .u8 0, .int .u8 0, .int .u8 0, .int .u8 0, .int .u8 0, .int .u8 0, .int .u8 0, .int .u8 0, .int .u8 0, .int .u8 0, .int .u8 0, .int .i64 0] 26 (by kernel_rfl) ?_
  have MP2 := MR2.new rfl 26 #[.int .u8 0, .int .u8 0, .int .u8 0, .int .u8 0, .int .u8 0, .int .u8 0, .int .u8 0, .int .u8 0, .int .u8 0, .int .u8 0, .int .u8 0, .int .u8 0, .int .u8 0, .int .u8 0, .int .u8 0, .int .u8 0, .int .i64 0]
  clear MR2
  try simp only [List.cons_append, List.nil_append, List.set_cons_zero, List.set_cons_succ] at MP2
  try simp only [Act.put, List.setIfInBounds_toArray, List.set_cons_zero, List.set_cons_succ]
  refine l_store MP2 2 (by kernel_rfl) 26 (.tmp 4) _ rfl rfl rfl rfl #[.int .u8 0, .int .u8 0, .int .u8 0, .int .u8 0, .int .u8 0, .int .u8 0, .int .u8 0, .int .u8 0, .int .u8 0, .int .u8 0, .int .u8 0, .int .u8 0, .int .u8 0, .int .u8 0, .int .u8 0, .int .u8 0, .int .i64 48] rfl (by kernel_rfl) (by rfl) (by kernel_rfl) _ rfl (fun wp2 MQ2 => ?_)
  clear MP2
  try simp only [List.cons_append, List.nil_append, List.set_cons_zero, List.set_cons_succ] at MQ2
  try simp only [Act.put, List.setIfInBounds_toArray, List.set_cons_zero, List.set_cons_succ]
  refine wpList_nil ?_
  go_upto_region 7 with fail
  have C7 : wp2.drew.cell? ⟨wr2.heap.size, 16, none⟩ = some (.int .i64 48) := (MQ2.row (i := 2) rfl).cell rfl
  refine wp_region_held_drew (S := fun w' => w'.cell? ⟨wr2.heap.size, 16, none⟩ = some (.int .i64 48)) (by kernel_rfl) C7 (fun _ => ?_)
  have MD2 := MQ2.drew
  clear MQ2
  refine tk (i := 0) (v := ?_) rfl (some 24) rfl (by kernel_rfl) (by kernel_rfl) (by kernel_rfl) (fun _ _ _ h => h) (Or.inl ⟨by kernel_rfl, ?_⟩) C7 ?_
  rotate_left
  · intro w hS; (try dsimp only at hS); go_simp; (try simp only [IntKind.wrap_i64, Int.reduceAdd, Int.reduceSub, Int.reduceMul, Int.reduceMod, Int.reducePow, Int.reduceNeg]); try with_reducible rfl
  try simp only [Act.put, List.setIfInBounds_toArray, List.set_cons_zero, List.set_cons_succ]
  refine tk (i := 1) (v := ?_) rfl (some 25) rfl (by kernel_rfl) (by kernel_rfl) (by kernel_rfl) (fun _ _ _ h => h) (Or.inl ⟨by kernel_rfl, ?_⟩) C7 ?_
  rotate_left
  · intro w hS; (try dsimp only at hS); go_simp; (try simp only [IntKind.wrap_i64, Int.reduceAdd, Int.reduceSub, Int.reduceMul, Int.reduceMod, Int.reducePow, Int.reduceNeg]); try with_reducible rfl
  try simp only [Act.put, List.setIfInBounds_toArray, List.set_cons_zero, List.set_cons_succ]
  refine tk (i := 2) (v := ?_) rfl (some 26) rfl (by kernel_rfl) (by kernel_rfl) (by kernel_rfl) (fun _ _ _ h => h) (Or.inl ⟨by kernel_rfl, ?_⟩) C7 ?_
  rotate_left
  · intro w hS; (try dsimp only at hS); go_simp; (try simp only [IntKind.wrap_i64, Int.reduceAdd, Int.reduceSub, Int.reduceMul, Int.reduceMod, Int.reducePow, Int.reduceNeg]); try with_reducible rfl
  try simp only [Act.put, List.setIfInBounds_toArray, List.set_cons_zero, List.set_cons_succ]
  refine tk (i := 3) (v := ?_) rfl (some 27) rfl (by kernel_rfl) (by kernel_rfl) (by kernel_rfl) (fun _ _ _ h => h) (Or.inl ⟨by kernel_rfl, ?_⟩) C7 ?_
  rotate_left
  · intro w hS; (try dsimp only at hS); go_simp; (try simp only [IntKind.wrap_i64, Int.reduceAdd, Int.reduceSub, Int.reduceMul, Int.reduceMod, Int.reducePow, Int.reduceNeg]); try with_reducible rfl
  try simp only [Act.put, List.setIfInBounds_toArray, List.set_cons_zero, List.set_cons_succ]
  refine tk (i := 4) (v := ?_) rfl (some 28) rfl (by kernel_rfl) (by kernel_rfl) (by kernel_rfl) (fun _ _ _ h => h) (Or.inl ⟨by kernel_rfl, ?_⟩) C7 ?_
  rotate_left
  · intro w hS; (try dsimp only at hS); go_simp; (try simp only [IntKind.wrap_i64, Int.reduceAdd, Int.reduceSub, Int.reduceMul, Int.reduceMod, Int.reducePow, Int.reduceNeg]); try with_reducible rfl
  try simp only [Act.put, List.setIfInBounds_toArray, List.set_cons_zero, List.set_cons_succ]
  refine tk (i := 5) (v := ?_) rfl (some 29) rfl (by kernel_rfl) (by kernel_rfl) (by kernel_rfl) (fun _ _ _ h => h) (Or.inl ⟨by kernel_rfl, ?_⟩) C7 ?_
  rotate_left
  · intro w hS; (try dsimp only at hS); go_simp; (try simp only [IntKind.wrap_i64, Int.reduceAdd, Int.reduceSub, Int.reduceMul, Int.reduceMod, Int.reducePow, Int.reduceNeg]); try with_reducible rfl
  try simp only [Act.put, List.setIfInBounds_toArray, List.set_cons_zero, List.set_cons_succ]
  refine wpAnyH_ready (rs := [6]) (by kernel_rfl) (by simp) ?_
  refine br_copy MD2 2 0 rfl (by kernel_rfl) (some 30) rfl (.tmp 28) (.tmp 29) rfl rfl rfl 6 16 16 16 rfl rfl [.int .u8 (bs 0), .int .u8 (bs 1), .int .u8 (bs 2), .int .u8 (bs 3), .int .u8 (bs 4), .int .u8 (bs 5)] rfl rfl (by kernel_rfl) (by kernel_rfl) (netC (kp 2) 48) (by kernel_rfl) _ rfl (fun w' M' => (M'.row (i := 2) rfl).cell rfl) (fun wq2 MC2 => ?_) AllReadyH.nil
  clear C7
  clear MD2
  try simp only [List.cons_append, List.nil_append, List.set_cons_zero, List.set_cons_succ] at MC2
  try simp only [Act.put, List.setIfInBounds_toArray, List.set_cons_zero, List.set_cons_succ]
  refine wpAnyH_done (by kernel_rfl) ?_ _
  go_upto_region 8 with fail
  go_cut [5, 6] (fun s t wz => ∃ g, s = .pointer (some ⟨g, 0, none⟩) ∧ t = .bool true ∧ Mem w wz [(w0.heap.size, 23, a16 bs), (wb.heap.size, 23, #[.int .u8 32, .int .u8 1, .int .u8 13, .int .u8 184, .int .u8 192, .int .u8 0, .int .u8 2, .int .u8 33, .int .u8 0, .int .u8 0, .int .u8 0, .int .u8 0, .int .u8 0, .int .u8 0, .int .u8 0, .int .u8 0, .int .u8 32, .int .u8 1, .int .u8 13, .int .u8 184, .int .u8 1, .int .u8 192, .int .u8 0, .int .u8 2, .int .u8 0, .int .u8 33, .int .u8 0, .int .u8 0, .int .u8 0, .int .u8 0, .int .u8 0, .int .u8 0, .int .u8 32, .int .u8 1, .int .u8 13, .int .u8 184, .int .u8 1, .int .u8 34, .int .u8 192, .int .u8 0, .int .u8 0, .int .u8 2, .int .u8 33, .int .u8 0, .int .u8 0, .int .u8 0, .int .u8 0, .int .u8 0, .int .u8 32, .int .u8 1, .int .u8 13, .int .u8 184, .int .u8 1, .int .u8 34, .int .u8 3, .int .u8 192, .int .u8 0, .int .u8 0, .int .u8 2, .int .u8 33, .int .u8 0, .int .u8 0, .int .u8 0, .int .u8 0, .int .u8 32, .int .u8 1, .int .u8 13, .int .u8 184, .int .u8 1, .int .u8 34, .int .u8 3, .int .u8 68, .int .u8 0, .int .u8 192, .int .u8 0, .int .u8 2, .int .u8 33, .int .u8 0, .int .u8 0, .int .u8 0]), (wr2.heap.size, 26, netC (kp 2) 48), (g, 23, (a16 (emb (kp 2) hA 48)))])
  case first =>
    refine wp_region_held_drew (S := fun w' => Mem w w' [(w0.heap.size, 23, a16 bs), (wb.heap.size, 23, #[.int .u8 32, .int .u8 1, .int .u8 13, .int .u8 184, .int .u8 192, .int .u8 0, .int .u8 2, .int .u8 33, .int .u8 0, .int .u8 0, .int .u8 0, .int .u8 0, .int .u8 0, .int .u8 0, .int .u8 0, .int .u8 0, .int .u8 32, .int .u8 1, .int .u8 13, .int .u8 184, .int .u8 1, .int .u8 192, .int .u8 0, .int .u8 2, .int .u8 0, .int .u8 33, .int .u8 0, .int .u8 0, .int .u8 0, .int .u8 0, .int .u8 0, .int .u8 0, .int .u8 32, .int .u8 1, .int .u8 13, .int .u8 184, .int .u8 1, .int .u8 34, .int .u8 192, .int .u8 0, .int .u8 0, .int .u8 2, .int .u8 33, .int .u8 0, .int .u8 0, .int .u8 0, .int .u8 0, .int .u8 0, .int .u8 32, .int .u8 1, .int .u8 13, .int .u8 184, .int .u8 1, .int .u8 34, .int .u8 3, .int .u8 192, .int .u8 0, .int .u8 0, .int .u8 2, .int .u8 33, .int .u8 0, .int .u8 0, .int .u8 0, .int .u8 0, .int .u8 32, .int .u8 1, .int .u8 13, .int .u8 184, .int .u8 1, .int .u8 34, .int .u8 3, .int .u8 68, .int .u8 0, .int .u8 192, .int .u8 0, .int .u8 2, .int .u8 33, .int .u8 0, .int .u8 0, .int .u8 0]), (wr2.heap.size, 26, netC (kp 2) 48)]) (by kernel_rfl) MC2.drew (fun M5 => ?_)
    refine tk (i := 0) rfl (some 32) rfl (by kernel_rfl) (by kernel_rfl) (by kernel_rfl) (fun _ _ _ h => h) (yi_row 2 26 (.tmp 4) rfl rfl rfl rfl Try.underlying26 rfl (by kernel_rfl)) M5 ?_
    try simp only [Act.put, List.setIfInBounds_toArray, List.set_cons_zero, List.set_cons_succ]
    refine wpAnyH_ready (rs := [1, 6]) (by kernel_rfl) (by simp) ?_
    refine br_call rfl rfl (some 33) rfl (host_any _) (by kernel_rfl) (fun w' hb => M5.call hb) (fun y1 hb1 => ?_) ?_
    · have yn1 := M5.call hb1
      clear hb1
      try simp only [Act.put, List.setIfInBounds_toArray, List.set_cons_zero, List.set_cons_succ]
      refine wpAnyH_ready (rs := [2, 6]) (by kernel_rfl) (by simp) ?_
      refine br_call rfl rfl (some 34) rfl (c10_2 _) (by kernel_rfl) (fun w' hb => yn1.call hb) (fun y2 hb2 => ?_) ?_
      · have yn2 := yn1.call hb2
        clear hb2
        try simp only [Act.put, List.setIfInBounds_toArray, List.set_cons_zero, List.set_cons_succ]
        refine tk (i := 3) (v := ?_) rfl (some 31) rfl (by kernel_rfl) (by kernel_rfl) (by kernel_rfl) (fun _ _ _ h => h) (Or.inl ⟨by rfl, ?_⟩) yn2 ?_
        rotate_left
        · intro w hS; go_simp; try with_reducible rfl
        try simp only [Act.put, List.setIfInBounds_toArray, List.set_cons_zero, List.set_cons_succ]
        refine tk (i := 4) (v := ?_) rfl (some 35) rfl (by kernel_rfl) (by kernel_rfl) (by kernel_rfl) (fun _ _ _ h => h) (Or.inl ⟨by rfl, ?_⟩) yn2 ?_
        rotate_left
        · intro w hS; go_simp; try with_reducible rfl
        try simp only [Act.put, List.setIfInBounds_toArray, List.set_cons_zero, List.set_cons_succ]
        refine tk (i := 5) (v := ?_) rfl (some 36) rfl (by kernel_rfl) (by kernel_rfl) (by kernel_rfl) (fun _ _ _ h => h) (Or.inl ⟨by rfl, ?_⟩) yn2 ?_
        rotate_left
        · intro w hS; go_simp; try with_reducible rfl
        try simp only [Act.put, List.setIfInBounds_toArray, List.set_cons_zero, List.set_cons_succ]
        refine wpAnyH_ready (rs := [6]) (by kernel_rfl) (by simp) ?_
        refine br_alloc rfl rfl (some 5) rfl #[.int .u8 0, .int .u8 0, .int .u8 0, .int .u8 0, .int .u8 0, .int .u8 0, .int .u8 0, .int .u8 0, .int .u8 0, .int .u8 0, .int .u8 0, .int .u8 0, .int .u8 0, .int .u8 0, .int .u8 0, .int .u8 0] 23 (by kernel_rfl) (yn2.alloc _) ?_ ?_
        · have yn3 := yn2.new rfl 23 #[.int .u8 0, .int .u8 0, .int .u8 0, .int .u8 0, .int .u8 0, .int .u8 0, .int .u8 0, .int .u8 0, .int .u8 0, .int .u8 0, .int .u8 0, .int .u8 0, .int .u8 0, .int .u8 0, .int .u8 0, .int .u8 0]
          try simp only [Act.put, List.setIfInBounds_toArray, List.set_cons_zero, List.set_cons_succ]
          refine wpAnyH_ready (rs := [7]) (by kernel_rfl) (by simp) ?_
          refine br_store yn3 3 rfl rfl 23 (.tmp 5) _ rfl rfl rfl rfl (a16 (emb (kp 2) hA 48)) rfl (by kernel_rfl) rfl (by kernel_rfl) _ rfl (fun w' M' => Mem.init (l := [(w0.heap.size, 23, a16 bs), (wb.heap.size, 23, #[.int .u8 32, .int .u8 1, .int .u8 13, .int .u8 184, .int .u8 192, .int .u8 0, .int .u8 2, .int .u8 33, .int .u8 0, .int .u8 0, .int .u8 0, .int .u8 0, .int .u8 0, .int .u8 0, .int .u8 0, .int .u8 0, .int .u8 32, .int .u8 1, .int .u8 13, .int .u8 184, .int .u8 1, .int .u8 192, .int .u8 0, .int .u8 2, .int .u8 0, .int .u8 33, .int .u8 0, .int .u8 0, .int .u8 0, .int .u8 0, .int .u8 0, .int .u8 0, .int .u8 32, .int .u8 1, .int .u8 13, .int .u8 184, .int .u8 1, .int .u8 34, .int .u8 192, .int .u8 0, .int .u8 0, .int .u8 2, .int .u8 33, .int .u8 0, .int .u8 0, .int .u8 0, .int .u8 0, .int .u8 0, .int .u8 32, .int .u8 1, .int .u8 13, .int .u8 184, .int .u8 1, .int .u8 34, .int .u8 3, .int .u8 192, .int .u8 0, .int .u8 0, .int .u8 2, .int .u8 33, .int .u8 0, .int .u8 0, .int .u8 0, .int .u8 0, .int .u8 32, .int .u8 1, .int .u8 13, .int .u8 184, .int .u8 1, .int .u8 34, .int .u8 3, .int .u8 68, .int .u8 0, .int .u8 192, .int .u8 0, .int .u8 2, .int .u8 33, .int .u8 0, .int .u8 0, .int .u8 0]), (wr2.heap.size, 26, netC (kp 2) 48)]) M') (fun y4 yn4 => ?_) ?_
          · try simp only [Act.put, List.setIfInBounds_toArray, List.set_cons_zero, List.set_cons_succ]
            refine tk (i := 8) (v := ?_) rfl (some 6) rfl (by kernel_rfl) (by kernel_rfl) (by kernel_rfl) (fun _ _ _ h => h) (Or.inl ⟨by rfl, ?_⟩) (Mem.init (l := [(w0.heap.size, 23, a16 bs), (wb.heap.size, 23, #[.int .u8 32, .int .u8 1, .int .u8 13, .int .u8 184, .int .u8 192, .int .u8 0, .int .u8 2, .int .u8 33, .int .u8 0, .int .u8 0, .int .u8 0, .int .u8 0, .int .u8 0, .int .u8 0, .int .u8 0, .int .u8 0, .int .u8 32, .int .u8 1, .int .u8 13, .int .u8 184, .int .u8 1, .int .u8 192, .int .u8 0, .int .u8 2, .int .u8 0, .int .u8 33, .int .u8 0, .int .u8 0, .int .u8 0, .int .u8 0, .int .u8 0, .int .u8 0, .int .u8 32, .int .u8 1, .int .u8 13, .int .u8 184, .int .u8 1, .int .u8 34, .int .u8 192, .int .u8 0, .int .u8 0, .int .u8 2, .int .u8 33, .int .u8 0, .int .u8 0, .int .u8 0, .int .u8 0, .int .u8 0, .int .u8 32, .int .u8 1, .int .u8 13, .int .u8 184, .int .u8 1, .int .u8 34, .int .u8 3, .int .u8 192, .int .u8 0, .int .u8 0, .int .u8 2, .int .u8 33, .int .u8 0, .int .u8 0, .int .u8 0, .int .u8 0, .int .u8 32, .int .u8 1, .int .u8 13, .int .u8 184, .int .u8 1, .int .u8 34, .int .u8 3, .int .u8 68, .int .u8 0, .int .u8 192, .int .u8 0, .int .u8 2, .int .u8 33, .int .u8 0, .int .u8 0, .int .u8 0]), (wr2.heap.size, 26, netC (kp 2) 48)]) yn4) ?_
            rotate_left
            · intro w hS; go_simp; try with_reducible rfl
            try simp only [Act.put, List.setIfInBounds_toArray, List.set_cons_zero, List.set_cons_succ]
            refine wpAnyH_done (by kernel_rfl) ?_ _
            go_wp2_with fail
            go_meet
            case rel => exact ⟨_, rfl, rfl, yn4⟩
          exact AllReadyH.nil
        exact AllReadyH.nil
      refine br_alloc rfl rfl (some 5) rfl #[.int .u8 0, .int .u8 0, .int .u8 0, .int .u8 0, .int .u8 0, .int .u8 0, .int .u8 0, .int .u8 0, .int .u8 0, .int .u8 0, .int .u8 0, .int .u8 0, .int .u8 0, .int .u8 0, .int .u8 0, .int .u8 0] 23 (by kernel_rfl) (yn1.alloc _) ?_ ?_
      · have yn5 := yn1.new rfl 23 #[.int .u8 0, .int .u8 0, .int .u8 0, .int .u8 0, .int .u8 0, .int .u8 0, .int .u8 0, .int .u8 0, .int .u8 0, .int .u8 0, .int .u8 0, .int .u8 0, .int .u8 0, .int .u8 0, .int .u8 0, .int .u8 0]
        try simp only [Act.put, List.setIfInBounds_toArray, List.set_cons_zero, List.set_cons_succ]
        refine wpAnyH_ready (rs := [2]) (by kernel_rfl) (by simp) ?_
        refine br_call rfl rfl (some 34) rfl (c10_2 _) (by kernel_rfl) (fun w' hb => Mem.init (l := [(w0.heap.size, 23, a16 bs), (wb.heap.size, 23, #[.int .u8 32, .int .u8 1, .int .u8 13, .int .u8 184, .int .u8 192, .int .u8 0, .int .u8 2, .int .u8 33, .int .u8 0, .int .u8 0, .int .u8 0, .int .u8 0, .int .u8 0, .int .u8 0, .int .u8 0, .int .u8 0, .int .u8 32, .int .u8 1, .int .u8 13, .int .u8 184, .int .u8 1, .int .u8 192, .int .u8 0, .int .u8 2, .int .u8 0, .int .u8 33, .int .u8 0, .int .u8 0, .int .u8 0, .int .u8 0, .int .u8 0, .int .u8 0, .int .u8 32, .int .u8 1, .int .u8 13, .int .u8 184, .int .u8 1, .int .u8 34, .int .u8 192, .int .u8 0, .int .u8 0, .int .u8 2, .int .u8 33, .int .u8 0, .int .u8 0, .int .u8 0, .int .u8 0, .int .u8 0, .int .u8 32, .int .u8 1, .int .u8 13, .int .u8 184, .int .u8 1, .int .u8 34, .int .u8 3, .int .u8 192, .int .u8 0, .int .u8 0, .int .u8 2, .int .u8 33, .int .u8 0, .int .u8 0, .int .u8 0, .int .u8 0, .int .u8 32, .int .u8 1, .int .u8 13, .int .u8 184, .int .u8 1, .int .u8 34, .int .u8 3, .int .u8 68, .int .u8 0, .int .u8 192, .int .u8 0, .int .u8 2, .int .u8 33, .int .u8 0, .int .u8 0, .int .u8 0]), (wr2.heap.size, 26, netC (kp 2) 48)]) (yn5.call hb)) (fun y6 hb6 => ?_) ?_
        · have yn6 := yn5.call hb6
          clear hb6
          try simp only [Act.put, List.setIfInBounds_toArray, List.set_cons_zero, List.set_cons_succ]
          refine tk (i := 3) (v := ?_) rfl (some 31) rfl (by kernel_rfl) (by kernel_rfl) (by kernel_rfl) (fun _ _ _ h => h) (Or.inl ⟨by rfl, ?_⟩) (Mem.init (l := [(w0.heap.size, 23, a16 bs), (wb.heap.size, 23, #[.int .u8 32, .int .u8 1, .int .u8 13, .int .u8 184, .int .u8 192, .int .u8 0, .int .u8 2, .int .u8 33, .int .u8 0, .int .u8 0, .int .u8 0, .int .u8 0, .int .u8 0, .int .u8 0, .int .u8 0, .int .u8 0, .int .u8 32, .int .u8 1, .int .u8 13, .int .u8 184, .int .u8 1, .int .u8 192, .int .u8 0, .int .u8 2, .int .u8 0, .int .u8 33, .int .u8 0, .int .u8 0, .int .u8 0, .int .u8 0, .int .u8 0, .int .u8 0, .int .u8 32, .int .u8 1, .int .u8 13, .int .u8 184, .int .u8 1, .int .u8 34, .int .u8 192, .int .u8 0, .int .u8 0, .int .u8 2, .int .u8 33, .int .u8 0, .int .u8 0, .int .u8 0, .int .u8 0, .int .u8 0, .int .u8 32, .int .u8 1, .int .u8 13, .int .u8 184, .int .u8 1, .int .u8 34, .int .u8 3, .int .u8 192, .int .u8 0, .int .u8 0, .int .u8 2, .int .u8 33, .int .u8 0, .int .u8 0, .int .u8 0, .int .u8 0, .int .u8 32, .int .u8 1, .int .u8 13, .int .u8 184, .int .u8 1, .int .u8 34, .int .u8 3, .int .u8 68, .int .u8 0, .int .u8 192, .int .u8 0, .int .u8 2, .int .u8 33, .int .u8 0, .int .u8 0, .int .u8 0]), (wr2.heap.size, 26, netC (kp 2) 48)]) yn6) ?_
          rotate_left
          · intro w hS; go_simp; try with_reducible rfl
          try simp only [Act.put, List.setIfInBounds_toArray, List.set_cons_zero, List.set_cons_succ]
          refine tk (i := 4) (v := ?_) rfl (some 35) rfl (by kernel_rfl) (by kernel_rfl) (by kernel_rfl) (fun _ _ _ h => h) (Or.inl ⟨by rfl, ?_⟩) (Mem.init (l := [(w0.heap.size, 23, a16 bs), (wb.heap.size, 23, #[.int .u8 32, .int .u8 1, .int .u8 13, .int .u8 184, .int .u8 192, .int .u8 0, .int .u8 2, .int .u8 33, .int .u8 0, .int .u8 0, .int .u8 0, .int .u8 0, .int .u8 0, .int .u8 0, .int .u8 0, .int .u8 0, .int .u8 32, .int .u8 1, .int .u8 13, .int .u8 184, .int .u8 1, .int .u8 192, .int .u8 0, .int .u8 2, .int .u8 0, .int .u8 33, .int .u8 0, .int .u8 0, .int .u8 0, .int .u8 0, .int .u8 0, .int .u8 0, .int .u8 32, .int .u8 1, .int .u8 13, .int .u8 184, .int .u8 1, .int .u8 34, .int .u8 192, .int .u8 0, .int .u8 0, .int .u8 2, .int .u8 33, .int .u8 0, .int .u8 0, .int .u8 0, .int .u8 0, .int .u8 0, .int .u8 32, .int .u8 1, .int .u8 13, .int .u8 184, .int .u8 1, .int .u8 34, .int .u8 3, .int .u8 192, .int .u8 0, .int .u8 0, .int .u8 2, .int .u8 33, .int .u8 0, .int .u8 0, .int .u8 0, .int .u8 0, .int .u8 32, .int .u8 1, .int .u8 13, .int .u8 184, .int .u8 1, .int .u8 34, .int .u8 3, .int .u8 68, .int .u8 0, .int .u8 192, .int .u8 0, .int .u8 2, .int .u8 33, .int .u8 0, .int .u8 0, .int .u8 0]), (wr2.heap.size, 26, netC (kp 2) 48)]) yn6) ?_
          rotate_left
          · intro w hS; go_simp; try with_reducible rfl
          try simp only [Act.put, List.setIfInBounds_toArray, List.set_cons_zero, List.set_cons_succ]
          refine tk (i := 5) (v := ?_) rfl (some 36) rfl (by kernel_rfl) (by kernel_rfl) (by kernel_rfl) (fun _ _ _ h => h) (Or.inl ⟨by rfl, ?_⟩) (Mem.init (l := [(w0.heap.size, 23, a16 bs), (wb.heap.size, 23, #[.int .u8 32, .int .u8 1, .int .u8 13, .int .u8 184, .int .u8 192, .int .u8 0, .int .u8 2, .int .u8 33, .int .u8 0, .int .u8 0, .int .u8 0, .int .u8 0, .int .u8 0, .int .u8 0, .int .u8 0, .int .u8 0, .int .u8 32, .int .u8 1, .int .u8 13, .int .u8 184, .int .u8 1, .int .u8 192, .int .u8 0, .int .u8 2, .int .u8 0, .int .u8 33, .int .u8 0, .int .u8 0, .int .u8 0, .int .u8 0, .int .u8 0, .int .u8 0, .int .u8 32, .int .u8 1, .int .u8 13, .int .u8 184, .int .u8 1, .int .u8 34, .int .u8 192, .int .u8 0, .int .u8 0, .int .u8 2, .int .u8 33, .int .u8 0, .int .u8 0, .int .u8 0, .int .u8 0, .int .u8 0, .int .u8 32, .int .u8 1, .int .u8 13, .int .u8 184, .int .u8 1, .int .u8 34, .int .u8 3, .int .u8 192, .int .u8 0, .int .u8 0, .int .u8 2, .int .u8 33, .int .u8 0, .int .u8 0, .int .u8 0, .int .u8 0, .int .u8 32, .int .u8 1, .int .u8 13, .int .u8 184, .int .u8 1, .int .u8 34, .int .u8 3, .int .u8 68, .int .u8 0, .int .u8 192, .int .u8 0, .int .u8 2, .int .u8 33, .int .u8 0, .int .u8 0, .int .u8 0]), (wr2.heap.size, 26, netC (kp 2) 48)]) yn6) ?_
          rotate_left
          · intro w hS; go_simp; try with_reducible rfl
          try simp only [Act.put, List.setIfInBounds_toArray, List.set_cons_zero, List.set_cons_succ]
          refine wpAnyH_ready (rs := [7]) (by kernel_rfl) (by simp) ?_
          refine br_store yn6 3 rfl rfl 23 (.tmp 5) _ rfl rfl rfl rfl (a16 (emb (kp 2) hA 48)) rfl (by kernel_rfl) rfl (by kernel_rfl) _ rfl (fun w' M' => Mem.init (l := [(w0.heap.size, 23, a16 bs), (wb.heap.size, 23, #[.int .u8 32, .int .u8 1, .int .u8 13, .int .u8 184, .int .u8 192, .int .u8 0, .int .u8 2, .int .u8 33, .int .u8 0, .int .u8 0, .int .u8 0, .int .u8 0, .int .u8 0, .int .u8 0, .int .u8 0, .int .u8 0, .int .u8 32, .int .u8 1, .int .u8 13, .int .u8 184, .int .u8 1, .int .u8 192, .int .u8 0, .int .u8 2, .int .u8 0, .int .u8 33, .int .u8 0, .int .u8 0, .int .u8 0, .int .u8 0, .int .u8 0, .int .u8 0, .int .u8 32, .int .u8 1, .int .u8 13, .int .u8 184, .int .u8 1, .int .u8 34, .int .u8 192, .int .u8 0, .int .u8 0, .int .u8 2, .int .u8 33, .int .u8 0, .int .u8 0, .int .u8 0, .int .u8 0, .int .u8 0, .int .u8 32, .int .u8 1, .int .u8 13, .int .u8 184, .int .u8 1, .int .u8 34, .int .u8 3, .int .u8 192, .int .u8 0, .int .u8 0, .int .u8 2, .int .u8 33, .int .u8 0, .int .u8 0, .int .u8 0, .int .u8 0, .int .u8 32, .int .u8 1, .int .u8 13, .int .u8 184, .int .u8 1, .int .u8 34, .int .u8 3, .int .u8 68, .int .u8 0, .int .u8 192, .int .u8 0, .int .u8 2, .int .u8 33, .int .u8 0, .int .u8 0, .int .u8 0]), (wr2.heap.size, 26, netC (kp 2) 48)]) M') (fun y7 yn7 => ?_) ?_
          · try simp only [Act.put, List.setIfInBounds_toArray, List.set_cons_zero, List.set_cons_succ]
            refine tk (i := 8) (v := ?_) rfl (some 6) rfl (by kernel_rfl) (by kernel_rfl) (by kernel_rfl) (fun _ _ _ h => h) (Or.inl ⟨by rfl, ?_⟩) (Mem.init (l := [(w0.heap.size, 23, a16 bs), (wb.heap.size, 23, #[.int .u8 32, .int .u8 1, .int .u8 13, .int .u8 184, .int .u8 192, .int .u8 0, .int .u8 2, .int .u8 33, .int .u8 0, .int .u8 0, .int .u8 0, .int .u8 0, .int .u8 0, .int .u8 0, .int .u8 0, .int .u8 0, .int .u8 32, .int .u8 1, .int .u8 13, .int .u8 184, .int .u8 1, .int .u8 192, .int .u8 0, .int .u8 2, .int .u8 0, .int .u8 33, .int .u8 0, .int .u8 0, .int .u8 0, .int .u8 0, .int .u8 0, .int .u8 0, .int .u8 32, .int .u8 1, .int .u8 13, .int .u8 184, .int .u8 1, .int .u8 34, .int .u8 192, .int .u8 0, .int .u8 0, .int .u8 2, .int .u8 33, .int .u8 0, .int .u8 0, .int .u8 0, .int .u8 0, .int .u8 0, .int .u8 32, .int .u8 1, .int .u8 13, .int .u8 184, .int .u8 1, .int .u8 34, .int .u8 3, .int .u8 192, .int .u8 0, .int .u8 0, .int .u8 2, .int .u8 33, .int .u8 0, .int .u8 0, .int .u8 0, .int .u8 0, .int .u8 32, .int .u8 1, .int .u8 13, .int .u8 184, .int .u8 1, .int .u8 34, .int .u8 3, .int .u8 68, .int .u8 0, .int .u8 192, .int .u8 0, .int .u8 2, .int .u8 33, .int .u8 0, .int .u8 0, .int .u8 0]), (wr2.heap.size, 26, netC (kp 2) 48)]) yn7) ?_
            rotate_left
            · intro w hS; go_simp; try with_reducible rfl
            try simp only [Act.put, List.setIfInBounds_toArray, List.set_cons_zero, List.set_cons_succ]
            refine wpAnyH_done (by kernel_rfl) ?_ _
            go_wp2_with fail
            go_meet
            case rel => exact ⟨_, rfl, rfl, yn7⟩
          exact AllReadyH.nil
        exact AllReadyH.nil
      exact AllReadyH.nil
    refine br_alloc rfl rfl (some 5) rfl #[.int .u8 0, .int .u8 0, .int .u8 0, .int .u8 0, .int .u8 0, .int .u8 0, .int .u8 0, .int .u8 0, .int .u8 0, .int .u8 0, .int .u8 0, .int .u8 0, .int .u8 0, .int .u8 0, .int .u8 0, .int .u8 0] 23 (by kernel_rfl) (M5.alloc _) ?_ ?_
    · have yn8 := M5.new rfl 23 #[.int .u8 0, .int .u8 0, .int .u8 0, .int .u8 0, .int .u8 0, .int .u8 0, .int .u8 0, .int .u8 0, .int .u8 0, .int .u8 0, .int .u8 0, .int .u8 0, .int .u8 0, .int .u8 0, .int .u8 0, .int .u8 0]
      try simp only [Act.put, List.setIfInBounds_toArray, List.set_cons_zero, List.set_cons_succ]
      refine wpAnyH_ready (rs := [1]) (by kernel_rfl) (by simp) ?_
      refine br_call rfl rfl (some 33) rfl (host_any _) (by kernel_rfl) (fun w' hb => Mem.init (l := [(w0.heap.size, 23, a16 bs), (wb.heap.size, 23, #[.int .u8 32, .int .u8 1, .int .u8 13, .int .u8 184, .int .u8 192, .int .u8 0, .int .u8 2, .int .u8 33, .int .u8 0, .int .u8 0, .int .u8 0, .int .u8 0, .int .u8 0, .int .u8 0, .int .u8 0, .int .u8 0, .int .u8 32, .int .u8 1, .int .u8 13, .int .u8 184, .int .u8 1, .int .u8 192, .int .u8 0, .int .u8 2, .int .u8 0, .int .u8 33, .int .u8 0, .int .u8 0, .int .u8 0, .int .u8 0, .int .u8 0, .int .u8 0, .int .u8 32, .int .u8 1, .int .u8 13, .int .u8 184, .int .u8 1, .int .u8 34, .int .u8 192, .int .u8 0, .int .u8 0, .int .u8 2, .int .u8 33, .int .u8 0, .int .u8 0, .int .u8 0, .int .u8 0, .int .u8 0, .int .u8 32, .int .u8 1, .int .u8 13, .int .u8 184, .int .u8 1, .int .u8 34, .int .u8 3, .int .u8 192, .int .u8 0, .int .u8 0, .int .u8 2, .int .u8 33, .int .u8 0, .int .u8 0, .int .u8 0, .int .u8 0, .int .u8 32, .int .u8 1, .int .u8 13, .int .u8 184, .int .u8 1, .int .u8 34, .int .u8 3, .int .u8 68, .int .u8 0, .int .u8 192, .int .u8 0, .int .u8 2, .int .u8 33, .int .u8 0, .int .u8 0, .int .u8 0]), (wr2.heap.size, 26, netC (kp 2) 48)]) (yn8.call hb)) (fun y9 hb9 => ?_) ?_
      · have yn9 := yn8.call hb9
        clear hb9
        try simp only [Act.put, List.setIfInBounds_toArray, List.set_cons_zero, List.set_cons_succ]
        refine wpAnyH_ready (rs := [2]) (by kernel_rfl) (by simp) ?_
        refine br_call rfl rfl (some 34) rfl (c10_2 _) (by kernel_rfl) (fun w' hb => Mem.init (l := [(w0.heap.size, 23, a16 bs), (wb.heap.size, 23, #[.int .u8 32, .int .u8 1, .int .u8 13, .int .u8 184, .int .u8 192, .int .u8 0, .int .u8 2, .int .u8 33, .int .u8 0, .int .u8 0, .int .u8 0, .int .u8 0, .int .u8 0, .int .u8 0, .int .u8 0, .int .u8 0, .int .u8 32, .int .u8 1, .int .u8 13, .int .u8 184, .int .u8 1, .int .u8 192, .int .u8 0, .int .u8 2, .int .u8 0, .int .u8 33, .int .u8 0, .int .u8 0, .int .u8 0, .int .u8 0, .int .u8 0, .int .u8 0, .int .u8 32, .int .u8 1, .int .u8 13, .int .u8 184, .int .u8 1, .int .u8 34, .int .u8 192, .int .u8 0, .int .u8 0, .int .u8 2, .int .u8 33, .int .u8 0, .int .u8 0, .int .u8 0, .int .u8 0, .int .u8 0, .int .u8 32, .int .u8 1, .int .u8 13, .int .u8 184, .int .u8 1, .int .u8 34, .int .u8 3, .int .u8 192, .int .u8 0, .int .u8 0, .int .u8 2, .int .u8 33, .int .u8 0, .int .u8 0, .int .u8 0, .int .u8 0, .int .u8 32, .int .u8 1, .int .u8 13, .int .u8 184, .int .u8 1, .int .u8 34, .int .u8 3, .int .u8 68, .int .u8 0, .int .u8 192, .int .u8 0, .int .u8 2, .int .u8 33, .int .u8 0, .int .u8 0, .int .u8 0]), (wr2.heap.size, 26, netC (kp 2) 48)]) (yn9.call hb)) (fun y10 hb10 => ?_) ?_
        · have yn10 := yn9.call hb10
          clear hb10
          try simp only [Act.put, List.setIfInBounds_toArray, List.set_cons_zero, List.set_cons_succ]
          refine tk (i := 3) (v := ?_) rfl (some 31) rfl (by kernel_rfl) (by kernel_rfl) (by kernel_rfl) (fun _ _ _ h => h) (Or.inl ⟨by rfl, ?_⟩) (Mem.init (l := [(w0.heap.size, 23, a16 bs), (wb.heap.size, 23, #[.int .u8 32, .int .u8 1, .int .u8 13, .int .u8 184, .int .u8 192, .int .u8 0, .int .u8 2, .int .u8 33, .int .u8 0, .int .u8 0, .int .u8 0, .int .u8 0, .int .u8 0, .int .u8 0, .int .u8 0, .int .u8 0, .int .u8 32, .int .u8 1, .int .u8 13, .int .u8 184, .int .u8 1, .int .u8 192, .int .u8 0, .int .u8 2, .int .u8 0, .int .u8 33, .int .u8 0, .int .u8 0, .int .u8 0, .int .u8 0, .int .u8 0, .int .u8 0, .int .u8 32, .int .u8 1, .int .u8 13, .int .u8 184, .int .u8 1, .int .u8 34, .int .u8 192, .int .u8 0, .int .u8 0, .int .u8 2, .int .u8 33, .int .u8 0, .int .u8 0, .int .u8 0, .int .u8 0, .int .u8 0, .int .u8 32, .int .u8 1, .int .u8 13, .int .u8 184, .int .u8 1, .int .u8 34, .int .u8 3, .int .u8 192, .int .u8 0, .int .u8 0, .int .u8 2, .int .u8 33, .int .u8 0, .int .u8 0, .int .u8 0, .int .u8 0, .int .u8 32, .int .u8 1, .int .u8 13, .int .u8 184, .int .u8 1, .int .u8 34, .int .u8 3, .int .u8 68, .int .u8 0, .int .u8 192, .int .u8 0, .int .u8 2, .int .u8 33, .int .u8 0, .int .u8 0, .int .u8 0]), (wr2.heap.size, 26, netC (kp 2) 48)]) yn10) ?_
          rotate_left
          · intro w hS; go_simp; try with_reducible rfl
          try simp only [Act.put, List.setIfInBounds_toArray, List.set_cons_zero, List.set_cons_succ]
          refine tk (i := 4) (v := ?_) rfl (some 35) rfl (by kernel_rfl) (by kernel_rfl) (by kernel_rfl) (fun _ _ _ h => h) (Or.inl ⟨by rfl, ?_⟩) (Mem.init (l := [(w0.heap.size, 23, a16 bs), (wb.heap.size, 23, #[.int .u8 32, .int .u8 1, .int .u8 13, .int .u8 184, .int .u8 192, .int .u8 0, .int .u8 2, .int .u8 33, .int .u8 0, .int .u8 0, .int .u8 0, .int .u8 0, .int .u8 0, .int .u8 0, .int .u8 0, .int .u8 0, .int .u8 32, .int .u8 1, .int .u8 13, .int .u8 184, .int .u8 1, .int .u8 192, .int .u8 0, .int .u8 2, .int .u8 0, .int .u8 33, .int .u8 0, .int .u8 0, .int .u8 0, .int .u8 0, .int .u8 0, .int .u8 0, .int .u8 32, .int .u8 1, .int .u8 13, .int .u8 184, .int .u8 1, .int .u8 34, .int .u8 192, .int .u8 0, .int .u8 0, .int .u8 2, .int .u8 33, .int .u8 0, .int .u8 0, .int .u8 0, .int .u8 0, .int .u8 0, .int .u8 32, .int .u8 1, .int .u8 13, .int .u8 184, .int .u8 1, .int .u8 34, .int .u8 3, .int .u8 192, .int .u8 0, .int .u8 0, .int .u8 2, .int .u8 33, .int .u8 0, .int .u8 0, .int .u8 0, .int .u8 0, .int .u8 32, .int .u8 1, .int .u8 13, .int .u8 184, .int .u8 1, .int .u8 34, .int .u8 3, .int .u8 68, .int .u8 0, .int .u8 192, .int .u8 0, .int .u8 2, .int .u8 33, .int .u8 0, .int .u8 0, .int .u8 0]), (wr2.heap.size, 26, netC (kp 2) 48)]) yn10) ?_
          rotate_left
          · intro w hS; go_simp; try with_reducible rfl
          try simp only [Act.put, List.setIfInBounds_toArray, List.set_cons_zero, List.set_cons_succ]
          refine tk (i := 5) (v := ?_) rfl (some 36) rfl (by kernel_rfl) (by kernel_rfl) (by kernel_rfl) (fun _ _ _ h => h) (Or.inl ⟨by rfl, ?_⟩) (Mem.init (l := [(w0.heap.size, 23, a16 bs), (wb.heap.size, 23, #[.int .u8 32, .int .u8 1, .int .u8 13, .int .u8 184, .int .u8 192, .int .u8 0, .int .u8 2, .int .u8 33, .int .u8 0, .int .u8 0, .int .u8 0, .int .u8 0, .int .u8 0, .int .u8 0, .int .u8 0, .int .u8 0, .int .u8 32, .int .u8 1, .int .u8 13, .int .u8 184, .int .u8 1, .int .u8 192, .int .u8 0, .int .u8 2, .int .u8 0, .int .u8 33, .int .u8 0, .int .u8 0, .int .u8 0, .int .u8 0, .int .u8 0, .int .u8 0, .int .u8 32, .int .u8 1, .int .u8 13, .int .u8 184, .int .u8 1, .int .u8 34, .int .u8 192, .int .u8 0, .int .u8 0, .int .u8 2, .int .u8 33, .int .u8 0, .int .u8 0, .int .u8 0, .int .u8 0, .int .u8 0, .int .u8 32, .int .u8 1, .int .u8 13, .int .u8 184, .int .u8 1, .int .u8 34, .int .u8 3, .int .u8 192, .int .u8 0, .int .u8 0, .int .u8 2, .int .u8 33, .int .u8 0, .int .u8 0, .int .u8 0, .int .u8 0, .int .u8 32, .int .u8 1, .int .u8 13, .int .u8 184, .int .u8 1, .int .u8 34, .int .u8 3, .int .u8 68, .int .u8 0, .int .u8 192, .int .u8 0, .int .u8 2, .int .u8 33, .int .u8 0, .int .u8 0, .int .u8 0]), (wr2.heap.size, 26, netC (kp 2) 48)]) yn10) ?_
          rotate_left
          · intro w hS; go_simp; try with_reducible rfl
          try simp only [Act.put, List.setIfInBounds_toArray, List.set_cons_zero, List.set_cons_succ]
          refine wpAnyH_ready (rs := [7]) (by kernel_rfl) (by simp) ?_
          refine br_store yn10 3 rfl rfl 23 (.tmp 5) _ rfl rfl rfl rfl (a16 (emb (kp 2) hA 48)) rfl (by kernel_rfl) rfl (by kernel_rfl) _ rfl (fun w' M' => Mem.init (l := [(w0.heap.size, 23, a16 bs), (wb.heap.size, 23, #[.int .u8 32, .int .u8 1, .int .u8 13, .int .u8 184, .int .u8 192, .int .u8 0, .int .u8 2, .int .u8 33, .int .u8 0, .int .u8 0, .int .u8 0, .int .u8 0, .int .u8 0, .int .u8 0, .int .u8 0, .int .u8 0, .int .u8 32, .int .u8 1, .int .u8 13, .int .u8 184, .int .u8 1, .int .u8 192, .int .u8 0, .int .u8 2, .int .u8 0, .int .u8 33, .int .u8 0, .int .u8 0, .int .u8 0, .int .u8 0, .int .u8 0, .int .u8 0, .int .u8 32, .int .u8 1, .int .u8 13, .int .u8 184, .int .u8 1, .int .u8 34, .int .u8 192, .int .u8 0, .int .u8 0, .int .u8 2, .int .u8 33, .int .u8 0, .int .u8 0, .int .u8 0, .int .u8 0, .int .u8 0, .int .u8 32, .int .u8 1, .int .u8 13, .int .u8 184, .int .u8 1, .int .u8 34, .int .u8 3, .int .u8 192, .int .u8 0, .int .u8 0, .int .u8 2, .int .u8 33, .int .u8 0, .int .u8 0, .int .u8 0, .int .u8 0, .int .u8 32, .int .u8 1, .int .u8 13, .int .u8 184, .int .u8 1, .int .u8 34, .int .u8 3, .int .u8 68, .int .u8 0, .int .u8 192, .int .u8 0, .int .u8 2, .int .u8 33, .int .u8 0, .int .u8 0, .int .u8 0]), (wr2.heap.size, 26, netC (kp 2) 48)]) M') (fun y11 yn11 => ?_) ?_
          · try simp only [Act.put, List.setIfInBounds_toArray, List.set_cons_zero, List.set_cons_succ]
            refine tk (i := 8) (v := ?_) rfl (some 6) rfl (by kernel_rfl) (by kernel_rfl) (by kernel_rfl) (fun _ _ _ h => h) (Or.inl ⟨by rfl, ?_⟩) (Mem.init (l := [(w0.heap.size, 23, a16 bs), (wb.heap.size, 23, #[.int .u8 32, .int .u8 1, .int .u8 13, .int .u8 184, .int .u8 192, .int .u8 0, .int .u8 2, .int .u8 33, .int .u8 0, .int .u8 0, .int .u8 0, .int .u8 0, .int .u8 0, .int .u8 0, .int .u8 0, .int .u8 0, .int .u8 32, .int .u8 1, .int .u8 13, .int .u8 184, .int .u8 1, .int .u8 192, .int .u8 0, .int .u8 2, .int .u8 0, .int .u8 33, .int .u8 0, .int .u8 0, .int .u8 0, .int .u8 0, .int .u8 0, .int .u8 0, .int .u8 32, .int .u8 1, .int .u8 13, .int .u8 184, .int .u8 1, .int .u8 34, .int .u8 192, .int .u8 0, .int .u8 0, .int .u8 2, .int .u8 33, .int .u8 0, .int .u8 0, .int .u8 0, .int .u8 0, .int .u8 0, .int .u8 32, .int .u8 1, .int .u8 13, .int .u8 184, .int .u8 1, .int .u8 34, .int .u8 3, .int .u8 192, .int .u8 0, .int .u8 0, .int .u8 2, .int .u8 33, .int .u8 0, .int .u8 0, .int .u8 0, .int .u8 0, .int .u8 32, .int .u8 1, .int .u8 13, .int .u8 184, .int .u8 1, .int .u8 34, .int .u8 3, .int .u8 68, .int .u8 0, .int .u8 192, .int .u8 0, .int .u8 2, .int .u8 33, .int .u8 0, .int .u8 0, .int .u8 0]), (wr2.heap.size, 26, netC (kp 2) 48)]) yn11) ?_
            rotate_left
            · intro w hS; go_simp; try with_reducible rfl
            try simp only [Act.put, List.setIfInBounds_toArray, List.set_cons_zero, List.set_cons_succ]
            refine wpAnyH_done (by kernel_rfl) ?_ _
            go_wp2_with fail
            go_meet
            case rel => exact ⟨_, rfl, rfl, yn11⟩
          exact AllReadyH.nil
        exact AllReadyH.nil
      exact AllReadyH.nil
    exact AllReadyH.nil
  obtain ⟨g5_2, rfl, rfl, MZ2⟩ := hcut
  clear MC2
  go_upto_region 9 with fail
  refine hide_l MZ2 (fun wy2 MY2 => ?_)
  clear MZ2
  refine wp_region_held_drew (S := fun w' => Mem w w' _) (by kernel_rfl) MY2.drew (fun _ => ?_)
  have MX2 := MY2.drew
  clear MY2
  refine tk (i := 0) (v := ?_) rfl (some 37) rfl (by kernel_rfl) (by kernel_rfl) (by kernel_rfl) (fun _ _ _ h => h) (Or.inl ⟨by kernel_rfl, ?_⟩) MX2 ?_
  rotate_left
  · intro w hS; go_simp; (try simp only [IntKind.wrap_i64, Int.reduceAdd, Int.reduceSub, Int.reduceMul, Int.reduceMod, Int.reducePow, Int.reduceNeg]); try with_reducible rfl
  try simp only [Act.put, List.setIfInBounds_toArray, List.set_cons_zero, List.set_cons_succ]
  refine tk (i := 1) (v := ?_) rfl (some 38) rfl (by kernel_rfl) (by kernel_rfl) (by kernel_rfl) (fun _ _ _ h => h) (Or.inl ⟨by kernel_rfl, ?_⟩) MX2 ?_
  rotate_left
  · intro w hS; go_simp; (try simp only [IntKind.wrap_i64, Int.reduceAdd, Int.reduceSub, Int.reduceMul, Int.reduceMod, Int.reducePow, Int.reduceNeg]); try with_reducible rfl
  try simp only [Act.put, List.setIfInBounds_toArray, List.set_cons_zero, List.set_cons_succ]
  refine tk (i := 2) (v := ?_) rfl (some 39) rfl (by kernel_rfl) (by kernel_rfl) (by kernel_rfl) (fun _ _ _ h => h) (Or.inl ⟨by kernel_rfl, ?_⟩) MX2 ?_
  rotate_left
  · intro w hS; go_simp; (try simp only [IntKind.wrap_i64, Int.reduceAdd, Int.reduceSub, Int.reduceMul, Int.reduceMod, Int.reducePow, Int.reduceNeg]); try with_reducible rfl
  try simp only [Act.put, List.setIfInBounds_toArray, List.set_cons_zero, List.set_cons_succ]
  refine tk (i := 3) rfl (some 40) rfl (by kernel_rfl) (by kernel_rfl) (by kernel_rfl) (fun _ _ _ h => h) (yi_row 3 23 (.tmp 5) rfl (by kernel_rfl) rfl rfl Try.underlying23 rfl (by kernel_rfl)) MX2 ?_
  try simp only [Act.put, List.setIfInBounds_toArray, List.set_cons_zero, List.set_cons_succ]
  refine tk (i := 4) (v := ?_) rfl (some 41) rfl (by kernel_rfl) (by kernel_rfl) (by kernel_rfl) (fun _ _ _ h => h) (Or.inl ⟨by kernel_rfl, ?_⟩) MX2 ?_
  rotate_left
  · intro w hS; go_simp; (try simp only [IntKind.wrap_i64, Int.reduceAdd, Int.reduceSub, Int.reduceMul, Int.reduceMod, Int.reducePow, Int.reduceNeg]); try with_reducible rfl
  try simp only [Act.put, List.setIfInBounds_toArray, List.set_cons_zero, List.set_cons_succ]
  refine tk (i := 5) (v := ?_) rfl (some 42) rfl (by kernel_rfl) (by kernel_rfl) (by kernel_rfl) (fun _ _ _ h => h) (Or.inl ⟨by kernel_rfl, ?_⟩) MX2 ?_
  rotate_left
  · intro w hS; go_simp; (try simp only [IntKind.wrap_i64, Int.reduceAdd, Int.reduceSub, Int.reduceMul, Int.reduceMod, Int.reducePow, Int.reduceNeg]); try with_reducible rfl
  try simp only [Act.put, List.setIfInBounds_toArray, List.set_cons_zero, List.set_cons_succ]
  refine tk (i := 6) (v := ?_) rfl (some 43) rfl (by kernel_rfl) (by kernel_rfl) (by kernel_rfl) (fun _ _ _ h => h) (Or.inl ⟨by kernel_rfl, ?_⟩) MX2 ?_
  rotate_left
  · intro w hS; go_simp; (try simp only [IntKind.wrap_i64, Int.reduceAdd, Int.reduceSub, Int.reduceMul, Int.reduceMod, Int.reducePow, Int.reduceNeg]); try with_reducible rfl
  try simp only [Act.put, List.setIfInBounds_toArray, List.set_cons_zero, List.set_cons_succ]
  refine tk (i := 7) rfl (some 44) rfl (by kernel_rfl) (by kernel_rfl) (by kernel_rfl) (fun _ _ _ h => h) (yi_part 1 23 (.tmp 43) rfl (by kernel_rfl) rfl 32 rfl #[.int .u8 32, .int .u8 1, .int .u8 13, .int .u8 184, .int .u8 1, .int .u8 34, .int .u8 192, .int .u8 0, .int .u8 0, .int .u8 2, .int .u8 33, .int .u8 0, .int .u8 0, .int .u8 0, .int .u8 0, .int .u8 0] Try.underlying23 rfl (by kernel_rfl) (by kernel_rfl)) MX2 ?_
  try simp only [Act.put, List.setIfInBounds_toArray, List.set_cons_zero, List.set_cons_succ]
  refine tk (i := 8) (v := ?_) rfl (some 45) rfl (by kernel_rfl) (by kernel_rfl) (by kernel_rfl) (fun _ _ _ h => h) (Or.inl ⟨by kernel_rfl, ?_⟩) MX2 ?_
  rotate_left
  · intro w hS; go_simp; (try simp only [IntKind.wrap_i64, Int.reduceAdd, Int.reduceSub, Int.reduceMul, Int.reduceMod, Int.reducePow, Int.reduceNeg]); try with_reducible rfl
  try simp only [Act.put, List.setIfInBounds_toArray, List.set_cons_zero, List.set_cons_succ]
  refine tk (i := 9) (v := ?_) rfl (some 46) rfl (by kernel_rfl) (by kernel_rfl) (by kernel_rfl) (fun _ _ _ h => h) (Or.inl ⟨by kernel_rfl, ?_⟩) MX2 ?_
  rotate_left
  · intro w hS; go_simp; (try simp only [IntKind.wrap_i64, Int.reduceAdd, Int.reduceSub, Int.reduceMul, Int.reduceMod, Int.reducePow, Int.reduceNeg]); try with_reducible rfl
  try simp only [Act.put, List.setIfInBounds_toArray, List.set_cons_zero, List.set_cons_succ]
  refine wpAnyH_done (by kernel_rfl) ?_ _
  go_upto_region 5 with fail
  refine wp_region_lit ?_
  refine lv (by kernel_rfl) (some 18) rfl (v := ?_) ?_ ?_
  rotate_left
  · go_simp; (try simp only [IntKind.wrap_i64, Int.reduceAdd, Int.reduceSub, Int.reduceMul, Int.reduceMod, Int.reducePow, Int.reduceNeg]); try with_reducible rfl
  try simp only [Act.put, List.setIfInBounds_toArray, List.set_cons_zero, List.set_cons_succ]
  refine lv (by kernel_rfl) (some 19) rfl (v := ?_) ?_ ?_
  rotate_left
  · go_simp; (try simp only [IntKind.wrap_i64, Int.reduceAdd, Int.reduceSub, Int.reduceMul, Int.reduceMod, Int.reducePow, Int.reduceNeg]); try with_reducible rfl
  try simp only [Act.put, List.setIfInBounds_toArray, List.set_cons_zero, List.set_cons_succ]
  refine lv (by kernel_rfl) (some 3) rfl (v := ?_) ?_ ?_
  rotate_left
  · go_simp; (try simp only [IntKind.wrap_i64, Int.reduceAdd, Int.reduceSub, Int.reduceMul, Int.reduceMod, Int.reducePow, Int.reduceNeg]); try with_reducible rfl
  try simp only [Act.put, List.setIfInBounds_toArray, List.set_cons_zero, List.set_cons_succ]
  refine wpList_nil ?_
  go_wp2_with fail
  have ME2 : Mem w _ [(w0.heap.size, 23, a16 bs), (wb.heap.size, 23, #[.int .u8 32, .int .u8 1, .int .u8 13, .int .u8 184, .int .u8 192, .int .u8 0, .int .u8 2, .int .u8 33, .int .u8 0, .int .u8 0, .int .u8 0, .int .u8 0, .int .u8 0, .int .u8 0, .int .u8 0, .int .u8 0, .int .u8 32, .int .u8 1, .int .u8 13, .int .u8 184, .int .u8 1, .int .u8 192, .int .u8 0, .int .u8 2, .int .u8 0, .int .u8 33, .int .u8 0, .int .u8 0, .int .u8 0, .int .u8 0, .int .u8 0, .int .u8 0, .int .u8 32, .int .u8 1, .int .u8 13, .int .u8 184, .int .u8 1, .int .u8 34, .int .u8 192, .int .u8 0, .int .u8 0, .int .u8 2, .int .u8 33, .int .u8 0, .int .u8 0, .int .u8 0, .int .u8 0, .int .u8 0, .int .u8 32, .int .u8 1, .int .u8 13, .int .u8 184, .int .u8 1, .int .u8 34, .int .u8 3, .int .u8 192, .int .u8 0, .int .u8 0, .int .u8 2, .int .u8 33, .int .u8 0, .int .u8 0, .int .u8 0, .int .u8 0, .int .u8 32, .int .u8 1, .int .u8 13, .int .u8 184, .int .u8 1, .int .u8 34, .int .u8 3, .int .u8 68, .int .u8 0, .int .u8 192, .int .u8 0, .int .u8 2, .int .u8 33, .int .u8 0, .int .u8 0, .int .u8 0])] := Mem.init (r := [_, _]) MX2
  clear MX2
  rw [rounds_succ]
  refine hide_l ME2 (fun wr3 MR3 => ?_)
  clear ME2
  go_upto_region 4 with fail
  refine wp_region_lit ?_
  refine lv (by kernel_rfl) (some 16) rfl (v := ?_) ?_ ?_
  rotate_left
  · go_simp; (try simp only [IntKind.wrap_i64, Int.reduceAdd, Int.reduceSub, Int.reduceMul, Int.reduceMod, Int.reducePow, Int.reduceNeg]); try with_reducible rfl
  try simp only [Act.put, List.setIfInBounds_toArray, List.set_cons_zero, List.set_cons_succ]
  refine lv (by kernel_rfl) (some 17) rfl (v := ?_) ?_ ?_
  rotate_left
  · go_simp; (try simp only [IntKind.wrap_i64, Int.reduceAdd, Int.reduceSub, Int.reduceMul, Int.reduceMod, Int.reducePow, Int.reduceNeg]); try with_reducible rfl
  try simp only [Act.put, List.setIfInBounds_toArray, List.set_cons_zero, List.set_cons_succ]
  refine wpList_nil ?_
  go_upto_region 6 with fail
  refine wp_region_lit ?_
  refine lv (by kernel_rfl) (some 20) rfl (v := ?_) ?_ ?_
  rotate_left
  · go_simp; (try simp only [IntKind.wrap_i64, Int.reduceAdd, Int.reduceSub, Int.reduceMul, Int.reduceMod, Int.reducePow, Int.reduceNeg]); try with_reducible rfl
  try simp only [Act.put, List.setIfInBounds_toArray, List.set_cons_zero, List.set_cons_succ]
  refine lv (by kernel_rfl) (some 21) rfl (v := ?_) ?_ ?_
  rotate_left
  · go_simp; (try simp only [IntKind.wrap_i64, Int.reduceAdd, Int.reduceSub, Int.reduceMul, Int.reduceMod, Int.reducePow, Int.reduceNeg]); try with_reducible rfl
  try simp only [Act.put, List.setIfInBounds_toArray, List.set_cons_zero, List.set_cons_succ]
  refine lv (by kernel_rfl) (some 22) rfl (v := ?_) ?_ ?_
  rotate_left
  · go_simp; (try simp only [IntKind.wrap_i64, Int.reduceAdd, Int.reduceSub, Int.reduceMul, Int.reduceMod, Int.reducePow, Int.reduceNeg]); try with_reducible rfl
  try simp only [Act.put, List.setIfInBounds_toArray, List.set_cons_zero, List.set_cons_succ]
  refine lv (by kernel_rfl) (some 23) rfl (v := ?_) ?_ ?_
  rotate_left
  · go_simp; (try simp only [IntKind.wrap_i64, Int.reduceAdd, Int.reduceSub, Int.reduceMul, Int.reduceMod, Int.reducePow, Int.reduceNeg]); try with_reducible rfl
  try simp only [Act.put, List.setIfInBounds_toArray, List.set_cons_zero, List.set_cons_succ]
  refine l_alloc (by kernel_rfl) (some 4) rfl #[.int .u8 0, .int .u8 0, .int .u8 0, .int .u8 0, .int .u8 0, .int .u8 0, .int .u8 0, .int .u8 0, .int .u8 0, .int .u8 0, .int .u8 0, .int .u8 0, .int .u8 0, .int .u8 0, .int .u8 0, .int .u8 0, .int .i64 0] 26 (by kernel_rfl) ?_
  have MP3 := MR3.new rfl 26 #[.int .u8 0, .int .u8 0, .int .u8 0, .int .u8 0, .int .u8 0, .int .u8 0, .int .u8 0, .int .u8 0, .int .u8 0, .int .u8 0, .int .u8 0, .int .u8 0, .int .u8 0, .int .u8 0, .int .u8 0, .int .u8 0, .int .i64 0]
  clear MR3
  try simp only [List.cons_append, List.nil_append, List.set_cons_zero, List.set_cons_succ] at MP3
  try simp only [Act.put, List.setIfInBounds_toArray, List.set_cons_zero, List.set_cons_succ]
  refine l_store MP3 2 (by kernel_rfl) 26 (.tmp 4) _ rfl rfl rfl rfl #[.int .u8 0, .int .u8 0, .int .u8 0, .int .u8 0, .int .u8 0, .int .u8 0, .int .u8 0, .int .u8 0, .int .u8 0, .int .u8 0, .int .u8 0, .int .u8 0, .int .u8 0, .int .u8 0, .int .u8 0, .int .u8 0, .int .i64 56] rfl (by kernel_rfl) (by rfl) (by kernel_rfl) _ rfl (fun wp3 MQ3 => ?_)
  clear MP3
  try simp only [List.cons_append, List.nil_append, List.set_cons_zero, List.set_cons_succ] at MQ3
  try simp only [Act.put, List.setIfInBounds_toArray, List.set_cons_zero, List.set_cons_succ]
  refine wpList_nil ?_
  go_upto_region 7 with fail
  have C7 : wp3.drew.cell? ⟨wr3.heap.size, 16, none⟩ = some (.int .i64 56) := (MQ3.row (i := 2) rfl).cell rfl
  refine wp_region_held_drew (S := fun w' => w'.cell? ⟨wr3.heap.size, 16, none⟩ = some (.int .i64 56)) (by kernel_rfl) C7 (fun _ => ?_)
  have MD3 := MQ3.drew
  clear MQ3
  refine tk (i := 0) (v := ?_) rfl (some 24) rfl (by kernel_rfl) (by kernel_rfl) (by kernel_rfl) (fun _ _ _ h => h) (Or.inl ⟨by kernel_rfl, ?_⟩) C7 ?_
  rotate_left
  · intro w hS; (try dsimp only at hS); go_simp; (try simp only [IntKind.wrap_i64, Int.reduceAdd, Int.reduceSub, Int.reduceMul, Int.reduceMod, Int.reducePow, Int.reduceNeg]); try with_reducible rfl
  try simp only [Act.put, List.setIfInBounds_toArray, List.set_cons_zero, List.set_cons_succ]
  refine tk (i := 1) (v := ?_) rfl (some 25) rfl (by kernel_rfl) (by kernel_rfl) (by kernel_rfl) (fun _ _ _ h => h) (Or.inl ⟨by kernel_rfl, ?_⟩) C7 ?_
  rotate_left
  · intro w hS; (try dsimp only at hS); go_simp; (try simp only [IntKind.wrap_i64, Int.reduceAdd, Int.reduceSub, Int.reduceMul, Int.reduceMod, Int.reducePow, Int.reduceNeg]); try with_reducible rfl
  try simp only [Act.put, List.setIfInBounds_toArray, List.set_cons_zero, List.set_cons_succ]
  refine tk (i := 2) (v := ?_) rfl (some 26) rfl (by kernel_rfl) (by kernel_rfl) (by kernel_rfl) (fun _ _ _ h => h) (Or.inl ⟨by kernel_rfl, ?_⟩) C7 ?_
  rotate_left
  · intro w hS; (try dsimp only at hS); go_simp; (try simp only [IntKind.wrap_i64, Int.reduceAdd, Int.reduceSub, Int.reduceMul, Int.reduceMod, Int.reducePow, Int.reduceNeg]); try with_reducible rfl
  try simp only [Act.put, List.setIfInBounds_toArray, List.set_cons_zero, List.set_cons_succ]
  refine tk (i := 3) (v := ?_) rfl (some 27) rfl (by kernel_rfl) (by kernel_rfl) (by kernel_rfl) (fun _ _ _ h => h) (Or.inl ⟨by kernel_rfl, ?_⟩) C7 ?_
  rotate_left
  · intro w hS; (try dsimp only at hS); go_simp; (try simp only [IntKind.wrap_i64, Int.reduceAdd, Int.reduceSub, Int.reduceMul, Int.reduceMod, Int.reducePow, Int.reduceNeg]); try with_reducible rfl
  try simp only [Act.put, List.setIfInBounds_toArray, List.set_cons_zero, List.set_cons_succ]
  refine tk (i := 4) (v := ?_) rfl (some 28) rfl (by kernel_rfl) (by kernel_rfl) (by kernel_rfl) (fun _ _ _ h => h) (Or.inl ⟨by kernel_rfl, ?_⟩) C7 ?_
  rotate_left
  · intro w hS; (try dsimp only at hS); go_simp; (try simp only [IntKind.wrap_i64, Int.reduceAdd, Int.reduceSub, Int.reduceMul, Int.reduceMod, Int.reducePow, Int.reduceNeg]); try with_reducible rfl
  try simp only [Act.put, List.setIfInBounds_toArray, List.set_cons_zero, List.set_cons_succ]
  refine tk (i := 5) (v := ?_) rfl (some 29) rfl (by kernel_rfl) (by kernel_rfl) (by kernel_rfl) (fun _ _ _ h => h) (Or.inl ⟨by kernel_rfl, ?_⟩) C7 ?_
  rotate_left
  · intro w hS; (try dsimp only at hS); go_simp; (try simp only [IntKind.wrap_i64, Int.reduceAdd, Int.reduceSub, Int.reduceMul, Int.reduceMod, Int.reducePow, Int.reduceNeg]); try with_reducible rfl
  try simp only [Act.put, List.setIfInBounds_toArray, List.set_cons_zero, List.set_cons_succ]
  refine wpAnyH_ready (rs := [6]) (by kernel_rfl) (by simp) ?_
  refine br_copy MD3 2 0 rfl (by kernel_rfl) (some 30) rfl (.tmp 28) (.tmp 29) rfl rfl rfl 7 16 16 16 rfl rfl [.int .u8 (bs 0), .int .u8 (bs 1), .int .u8 (bs 2), .int .u8 (bs 3), .int .u8 (bs 4), .int .u8 (bs 5), .int .u8 (bs 6)] rfl rfl (by kernel_rfl) (by kernel_rfl) (netC (kp 3) 56) (by kernel_rfl) _ rfl (fun w' M' => (M'.row (i := 2) rfl).cell rfl) (fun wq3 MC3 => ?_) AllReadyH.nil
  clear C7
  clear MD3
  try simp only [List.cons_append, List.nil_append, List.set_cons_zero, List.set_cons_succ] at MC3
  try simp only [Act.put, List.setIfInBounds_toArray, List.set_cons_zero, List.set_cons_succ]
  refine wpAnyH_done (by kernel_rfl) ?_ _
  go_upto_region 8 with fail
  go_cut [5, 6] (fun s t wz => ∃ g, s = .pointer (some ⟨g, 0, none⟩) ∧ t = .bool true ∧ Mem w wz [(w0.heap.size, 23, a16 bs), (wb.heap.size, 23, #[.int .u8 32, .int .u8 1, .int .u8 13, .int .u8 184, .int .u8 192, .int .u8 0, .int .u8 2, .int .u8 33, .int .u8 0, .int .u8 0, .int .u8 0, .int .u8 0, .int .u8 0, .int .u8 0, .int .u8 0, .int .u8 0, .int .u8 32, .int .u8 1, .int .u8 13, .int .u8 184, .int .u8 1, .int .u8 192, .int .u8 0, .int .u8 2, .int .u8 0, .int .u8 33, .int .u8 0, .int .u8 0, .int .u8 0, .int .u8 0, .int .u8 0, .int .u8 0, .int .u8 32, .int .u8 1, .int .u8 13, .int .u8 184, .int .u8 1, .int .u8 34, .int .u8 192, .int .u8 0, .int .u8 0, .int .u8 2, .int .u8 33, .int .u8 0, .int .u8 0, .int .u8 0, .int .u8 0, .int .u8 0, .int .u8 32, .int .u8 1, .int .u8 13, .int .u8 184, .int .u8 1, .int .u8 34, .int .u8 3, .int .u8 192, .int .u8 0, .int .u8 0, .int .u8 2, .int .u8 33, .int .u8 0, .int .u8 0, .int .u8 0, .int .u8 0, .int .u8 32, .int .u8 1, .int .u8 13, .int .u8 184, .int .u8 1, .int .u8 34, .int .u8 3, .int .u8 68, .int .u8 0, .int .u8 192, .int .u8 0, .int .u8 2, .int .u8 33, .int .u8 0, .int .u8 0, .int .u8 0]), (wr3.heap.size, 26, netC (kp 3) 56), (g, 23, (a16 (emb (kp 3) hA 56)))])
  case first =>
    refine wp_region_held_drew (S := fun w' => Mem w w' [(w0.heap.size, 23, a16 bs), (wb.heap.size, 23, #[.int .u8 32, .int .u8 1, .int .u8 13, .int .u8 184, .int .u8 192, .int .u8 0, .int .u8 2, .int .u8 33, .int .u8 0, .int .u8 0, .int .u8 0, .int .u8 0, .int .u8 0, .int .u8 0, .int .u8 0, .int .u8 0, .int .u8 32, .int .u8 1, .int .u8 13, .int .u8 184, .int .u8 1, .int .u8 192, .int .u8 0, .int .u8 2, .int .u8 0, .int .u8 33, .int .u8 0, .int .u8 0, .int .u8 0, .int .u8 0, .int .u8 0, .int .u8 0, .int .u8 32, .int .u8 1, .int .u8 13, .int .u8 184, .int .u8 1, .int .u8 34, .int .u8 192, .int .u8 0, .int .u8 0, .int .u8 2, .int .u8 33, .int .u8 0, .int .u8 0, .int .u8 0, .int .u8 0, .int .u8 0, .int .u8 32, .int .u8 1, .int .u8 13, .int .u8 184, .int .u8 1, .int .u8 34, .int .u8 3, .int .u8 192, .int .u8 0, .int .u8 0, .int .u8 2, .int .u8 33, .int .u8 0, .int .u8 0, .int .u8 0, .int .u8 0, .int .u8 32, .int .u8 1, .int .u8 13, .int .u8 184, .int .u8 1, .int .u8 34, .int .u8 3, .int .u8 68, .int .u8 0, .int .u8 192, .int .u8 0, .int .u8 2, .int .u8 33, .int .u8 0, .int .u8 0, .int .u8 0]), (wr3.heap.size, 26, netC (kp 3) 56)]) (by kernel_rfl) MC3.drew (fun M5 => ?_)
    refine tk (i := 0) rfl (some 32) rfl (by kernel_rfl) (by kernel_rfl) (by kernel_rfl) (fun _ _ _ h => h) (yi_row 2 26 (.tmp 4) rfl rfl rfl rfl Try.underlying26 rfl (by kernel_rfl)) M5 ?_
    try simp only [Act.put, List.setIfInBounds_toArray, List.set_cons_zero, List.set_cons_succ]
    refine wpAnyH_ready (rs := [1, 6]) (by kernel_rfl) (by simp) ?_
    refine br_call rfl rfl (some 33) rfl (host_any _) (by kernel_rfl) (fun w' hb => M5.call hb) (fun y1 hb1 => ?_) ?_
    · have yn1 := M5.call hb1
      clear hb1
      try simp only [Act.put, List.setIfInBounds_toArray, List.set_cons_zero, List.set_cons_succ]
      refine wpAnyH_ready (rs := [2, 6]) (by kernel_rfl) (by simp) ?_
      refine br_call rfl rfl (some 34) rfl (c10_3 _) (by kernel_rfl) (fun w' hb => yn1.call hb) (fun y2 hb2 => ?_) ?_
      · have yn2 := yn1.call hb2
        clear hb2
        try simp only [Act.put, List.setIfInBounds_toArray, List.set_cons_zero, List.set_cons_succ]
        refine tk (i := 3) (v := ?_) rfl (some 31) rfl (by kernel_rfl) (by kernel_rfl) (by kernel_rfl) (fun _ _ _ h => h) (Or.inl ⟨by rfl, ?_⟩) yn2 ?_
        rotate_left
        · intro w hS; go_simp; try with_reducible rfl
        try simp only [Act.put, List.setIfInBounds_toArray, List.set_cons_zero, List.set_cons_succ]
        refine tk (i := 4) (v := ?_) rfl (some 35) rfl (by kernel_rfl) (by kernel_rfl) (by kernel_rfl) (fun _ _ _ h => h) (Or.inl ⟨by rfl, ?_⟩) yn2 ?_
        rotate_left
        · intro w hS; go_simp; try with_reducible rfl
        try simp only [Act.put, List.setIfInBounds_toArray, List.set_cons_zero, List.set_cons_succ]
        refine tk (i := 5) (v := ?_) rfl (some 36) rfl (by kernel_rfl) (by kernel_rfl) (by kernel_rfl) (fun _ _ _ h => h) (Or.inl ⟨by rfl, ?_⟩) yn2 ?_
        rotate_left
        · intro w hS; go_simp; try with_reducible rfl
        try simp only [Act.put, List.setIfInBounds_toArray, List.set_cons_zero, List.set_cons_succ]
        refine wpAnyH_ready (rs := [6]) (by kernel_rfl) (by simp) ?_
        refine br_alloc rfl rfl (some 5) rfl #[.int .u8 0, .int .u8 0, .int .u8 0, .int .u8 0, .int .u8 0, .int .u8 0, .int .u8 0, .int .u8 0, .int .u8 0, .int .u8 0, .int .u8 0, .int .u8 0, .int .u8 0, .int .u8 0, .int .u8 0, .int .u8 0] 23 (by kernel_rfl) (yn2.alloc _) ?_ ?_
        · have yn3 := yn2.new rfl 23 #[.int .u8 0, .int .u8 0, .int .u8 0, .int .u8 0, .int .u8 0, .int .u8 0, .int .u8 0, .int .u8 0, .int .u8 0, .int .u8 0, .int .u8 0, .int .u8 0, .int .u8 0, .int .u8 0, .int .u8 0, .int .u8 0]
          try simp only [Act.put, List.setIfInBounds_toArray, List.set_cons_zero, List.set_cons_succ]
          refine wpAnyH_ready (rs := [7]) (by kernel_rfl) (by simp) ?_
          refine br_store yn3 3 rfl rfl 23 (.tmp 5) _ rfl rfl rfl rfl (a16 (emb (kp 3) hA 56)) rfl (by kernel_rfl) rfl (by kernel_rfl) _ rfl (fun w' M' => Mem.init (l := [(w0.heap.size, 23, a16 bs), (wb.heap.size, 23, #[.int .u8 32, .int .u8 1, .int .u8 13, .int .u8 184, .int .u8 192, .int .u8 0, .int .u8 2, .int .u8 33, .int .u8 0, .int .u8 0, .int .u8 0, .int .u8 0, .int .u8 0, .int .u8 0, .int .u8 0, .int .u8 0, .int .u8 32, .int .u8 1, .int .u8 13, .int .u8 184, .int .u8 1, .int .u8 192, .int .u8 0, .int .u8 2, .int .u8 0, .int .u8 33, .int .u8 0, .int .u8 0, .int .u8 0, .int .u8 0, .int .u8 0, .int .u8 0, .int .u8 32, .int .u8 1, .int .u8 13, .int .u8 184, .int .u8 1, .int .u8 34, .int .u8 192, .int .u8 0, .int .u8 0, .int .u8 2, .int .u8 33, .int .u8 0, .int .u8 0, .int .u8 0, .int .u8 0, .int .u8 0, .int .u8 32, .int .u8 1, .int .u8 13, .int .u8 184, .int .u8 1, .int .u8 34, .int .u8 3, .int .u8 192, .int .u8 0, .int .u8 0, .int .u8 2, .int .u8 33, .int .u8 0, .int .u8 0, .int .u8 0, .int .u8 0, .int .u8 32, .int .u8 1, .int .u8 13, .int .u8 184, .int .u8 1, .int .u8 34, .int .u8 3, .int .u8 68, .int .u8 0, .int .u8 192, .int .u8 0, .int .u8 2, .int .u8 33, .int .u8 0, .int .u8 0, .int .u8 0]), (wr3.heap.size, 26, netC (kp 3) 56)]) M') (fun y4 yn4 => ?_) ?_
          · try simp only [Act.put, List.setIfInBounds_toArray, List.set_cons_zero, List.set_cons_succ]
            refine tk (i := 8) (v := ?_) rfl (some 6) rfl (by kernel_rfl) (by kernel_rfl) (by kernel_rfl) (fun _ _ _ h => h) (Or.inl ⟨by rfl, ?_⟩) (Mem.init (l := [(w0.heap.size, 23, a16 bs), (wb.heap.size, 23, #[.int .u8 32, .int .u8 1, .int .u8 13, .int .u8 184, .int .u8 192, .int .u8 0, .int .u8 2, .int .u8 33, .int .u8 0, .int .u8 0, .int .u8 0, .int .u8 0, .int .u8 0, .int .u8 0, .int .u8 0, .int .u8 0, .int .u8 32, .int .u8 1, .int .u8 13, .int .u8 184, .int .u8 1, .int .u8 192, .int .u8 0, .int .u8 2, .int .u8 0, .int .u8 33, .int .u8 0, .int .u8 0, .int .u8 0, .int .u8 0, .int .u8 0, .int .u8 0, .int .u8 32, .int .u8 1, .int .u8 13, .int .u8 184, .int .u8 1, .int .u8 34, .int .u8 192, .int .u8 0, .int .u8 0, .int .u8 2, .int .u8 33, .int .u8 0, .int .u8 0, .int .u8 0, .int .u8 0, .int .u8 0, .int .u8 32, .int .u8 1, .int .u8 13, .int .u8 184, .int .u8 1, .int .u8 34, .int .u8 3, .int .u8 192, .int .u8 0, .int .u8 0, .int .u8 2, .int .u8 33, .int .u8 0, .int .u8 0, .int .u8 0, .int .u8 0, .int .u8 32, .int .u8 1, .int .u8 13, .int .u8 184, .int .u8 1, .int .u8 34, .int .u8 3, .int .u8 68, .int .u8 0, .int .u8 192, .int .u8 0, .int .u8 2, .int .u8 33, .int .u8 0, .int .u8 0, .int .u8 0]), (wr3.heap.size, 26, netC (kp 3) 56)]) yn4) ?_
            rotate_left
            · intro w hS; go_simp; try with_reducible rfl
            try simp only [Act.put, List.setIfInBounds_toArray, List.set_cons_zero, List.set_cons_succ]
            refine wpAnyH_done (by kernel_rfl) ?_ _
            go_wp2_with fail
            go_meet
            case rel => exact ⟨_, rfl, rfl, yn4⟩
          exact AllReadyH.nil
        exact AllReadyH.nil
      refine br_alloc rfl rfl (some 5) rfl #[.int .u8 0, .int .u8 0, .int .u8 0, .int .u8 0, .int .u8 0, .int .u8 0, .int .u8 0, .int .u8 0, .int .u8 0, .int .u8 0, .int .u8 0, .int .u8 0, .int .u8 0, .int .u8 0, .int .u8 0, .int .u8 0] 23 (by kernel_rfl) (yn1.alloc _) ?_ ?_
      · have yn5 := yn1.new rfl 23 #[.int .u8 0, .int .u8 0, .int .u8 0, .int .u8 0, .int .u8 0, .int .u8 0, .int .u8 0, .int .u8 0, .int .u8 0, .int .u8 0, .int .u8 0, .int .u8 0, .int .u8 0, .int .u8 0, .int .u8 0, .int .u8 0]
        try simp only [Act.put, List.setIfInBounds_toArray, List.set_cons_zero, List.set_cons_succ]
        refine wpAnyH_ready (rs := [2]) (by kernel_rfl) (by simp) ?_
        refine br_call rfl rfl (some 34) rfl (c10_3 _) (by kernel_rfl) (fun w' hb => Mem.init (l := [(w0.heap.size, 23, a16 bs), (wb.heap.size, 23, #[.int .u8 32, .int .u8 1, .int .u8 13, .int .u8 184, .int .u8 192, .int .u8 0, .int .u8 2, .int .u8 33, .int .u8 0, .int .u8 0, .int .u8 0, .int .u8 0, .int .u8 0, .int .u8 0, .int .u8 0, .int .u8 0, .int .u8 32, .int .u8 1, .int .u8 13, .int .u8 184, .int .u8 1, .int .u8 192, .int .u8 0, .int .u8 2, .int .u8 0, .int .u8 33, .int .u8 0, .int .u8 0, .int .u8 0, .int .u8 0, .int .u8 0, .int .u8 0, .int .u8 32, .int .u8 1, .int .u8 13, .int .u8 184, .int .u8 1, .int .u8 34, .int .u8 192, .int .u8 0, .int .u8 0, .int .u8 2, .int .u8 33, .int .u8 0, .int .u8 0, .int .u8 0, .int .u8 0, .int .u8 0, .int .u8 32, .int .u8 1, .int .u8 13, .int .u8 184, .int .u8 1, .int .u8 34, .int .u8 3, .int .u8 192, .int .u8 0, .int .u8 0, .int .u8 2, .int .u8 33, .int .u8 0, .int .u8 0, .int .u8 0, .int .u8 0, .int .u8 32, .int .u8 1, .int .u8 13, .int .u8 184, .int .u8 1, .int .u8 34, .int .u8 3, .int .u8 68, .int .u8 0, .int .u8 192, .int .u8 0, .int .u8 2, .int .u8 33, .int .u8 0, .int .u8 0, .int .u8 0]), (wr3.heap.size, 26, netC (kp 3) 56)]) (yn5.call hb)) (fun y6 hb6 => ?_) ?_
        · have yn6 := yn5.call hb6
          clear hb6
          try simp only [Act.put, List.setIfInBounds_toArray, List.set_cons_zero, List.set_cons_succ]
          refine tk (i := 3) (v := ?_) rfl (some 31) rfl (by kernel_rfl) (by kernel_rfl) (by kernel_rfl) (fun _ _ _ h => h) (Or.inl ⟨by rfl, ?_⟩) (Mem.init (l := [(w0.heap.size, 23, a16 bs), (wb.heap.size, 23, #[.int .u8 32, .int .u8 1, .int .u8 13, .int .u8 184, .int .u8 192, .int .u8 0, .int .u8 2, .int .u8 33, .int .u8 0, .int .u8 0, .int .u8 0, .int .u8 0, .int .u8 0, .int .u8 0, .int .u8 0, .int .u8 0, .int .u8 32, .int .u8 1, .int .u8 13, .int .u8 184, .int .u8 1, .int .u8 192, .int .u8 0, .int .u8 2, .int .u8 0, .int .u8 33, .int .u8 0, .int .u8 0, .int .u8 0, .int .u8 0, .int .u8 0, .int .u8 0, .int .u8 32, .int .u8 1, .int .u8 13, .int .u8 184, .int .u8 1, .int .u8 34, .int .u8 192, .int .u8 0, .int .u8 0, .int .u8 2, .int .u8 33, .int .u8 0, .int .u8 0, .int .u8 0, .int .u8 0, .int .u8 0, .int .u8 32, .int .u8 1, .int .u8 13, .int .u8 184, .int .u8 1, .int .u8 34, .int .u8 3, .int .u8 192, .int .u8 0, .int .u8 0, .int .u8 2, .int .u8 33, .int .u8 0, .int .u8 0, .int .u8 0, .int .u8 0, .int .u8 32, .int .u8 1, .int .u8 13, .int .u8 184, .int .u8 1, .int .u8 34, .int .u8 3, .int .u8 68, .int .u8 0, .int .u8 192, .int .u8 0, .int .u8 2, .int .u8 33, .int .u8 0, .int .u8 0, .int .u8 0]), (wr3.heap.size, 26, netC (kp 3) 56)]) yn6) ?_
          rotate_left
          · intro w hS; go_simp; try with_reducible rfl
          try simp only [Act.put, List.setIfInBounds_toArray, List.set_cons_zero, List.set_cons_succ]
          refine tk (i := 4) (v := ?_) rfl (some 35) rfl (by kernel_rfl) (by kernel_rfl) (by kernel_rfl) (fun _ _ _ h => h) (Or.inl ⟨by rfl, ?_⟩) (Mem.init (l := [(w0.heap.size, 23, a16 bs), (wb.heap.size, 23, #[.int .u8 32, .int .u8 1, .int .u8 13, .int .u8 184, .int .u8 192, .int .u8 0, .int .u8 2, .int .u8 33, .int .u8 0, .int .u8 0, .int .u8 0, .int .u8 0, .int .u8 0, .int .u8 0, .int .u8 0, .int .u8 0, .int .u8 32, .int .u8 1, .int .u8 13, .int .u8 184, .int .u8 1, .int .u8 192, .int .u8 0, .int .u8 2, .int .u8 0, .int .u8 33, .int .u8 0, .int .u8 0, .int .u8 0, .int .u8 0, .int .u8 0, .int .u8 0, .int .u8 32, .int .u8 1, .int .u8 13, .int .u8 184, .int .u8 1, .int .u8 34, .int .u8 192, .int .u8 0, .int .u8 0, .int .u8 2, .int .u8 33, .int .u8 0, .int .u8 0, .int .u8 0, .int .u8 0, .int .u8 0, .int .u8 32, .int .u8 1, .int .u8 13, .int .u8 184, .int .u8 1, .int .u8 34, .int .u8 3, .int .u8 192, .int .u8 0, .int .u8 0, .int .u8 2, .int .u8 33, .int .u8 0, .int .u8 0, .int .u8 0, .int .u8 0, .int .u8 32, .int .u8 1, .int .u8 13, .int .u8 184, .int .u8 1, .int .u8 34, .int .u8 3, .int .u8 68, .int .u8 0, .int .u8 192, .int .u8 0, .int .u8 2, .int .u8 33, .int .u8 0, .int .u8 0, .int .u8 0]), (wr3.heap.size, 26, netC (kp 3) 56)]) yn6) ?_
          rotate_left
          · intro w hS; go_simp; try with_reducible rfl
          try simp only [Act.put, List.setIfInBounds_toArray, List.set_cons_zero, List.set_cons_succ]
          refine tk (i := 5) (v := ?_) rfl (some 36) rfl (by kernel_rfl) (by kernel_rfl) (by kernel_rfl) (fun _ _ _ h => h) (Or.inl ⟨by rfl, ?_⟩) (Mem.init (l := [(w0.heap.size, 23, a16 bs), (wb.heap.size, 23, #[.int .u8 32, .int .u8 1, .int .u8 13, .int .u8 184, .int .u8 192, .int .u8 0, .int .u8 2, .int .u8 33, .int .u8 0, .int .u8 0, .int .u8 0, .int .u8 0, .int .u8 0, .int .u8 0, .int .u8 0, .int .u8 0, .int .u8 32, .int .u8 1, .int .u8 13, .int .u8 184, .int .u8 1, .int .u8 192, .int .u8 0, .int .u8 2, .int .u8 0, .int .u8 33, .int .u8 0, .int .u8 0, .int .u8 0, .int .u8 0, .int .u8 0, .int .u8 0, .int .u8 32, .int .u8 1, .int .u8 13, .int .u8 184, .int .u8 1, .int .u8 34, .int .u8 192, .int .u8 0, .int .u8 0, .int .u8 2, .int .u8 33, .int .u8 0, .int .u8 0, .int .u8 0, .int .u8 0, .int .u8 0, .int .u8 32, .int .u8 1, .int .u8 13, .int .u8 184, .int .u8 1, .int .u8 34, .int .u8 3, .int .u8 192, .int .u8 0, .int .u8 0, .int .u8 2, .int .u8 33, .int .u8 0, .int .u8 0, .int .u8 0, .int .u8 0, .int .u8 32, .int .u8 1, .int .u8 13, .int .u8 184, .int .u8 1, .int .u8 34, .int .u8 3, .int .u8 68, .int .u8 0, .int .u8 192, .int .u8 0, .int .u8 2, .int .u8 33, .int .u8 0, .int .u8 0, .int .u8 0]), (wr3.heap.size, 26, netC (kp 3) 56)]) yn6) ?_
          rotate_left
          · intro w hS; go_simp; try with_reducible rfl
          try simp only [Act.put, List.setIfInBounds_toArray, List.set_cons_zero, List.set_cons_succ]
          refine wpAnyH_ready (rs := [7]) (by kernel_rfl) (by simp) ?_
          refine br_store yn6 3 rfl rfl 23 (.tmp 5) _ rfl rfl rfl rfl (a16 (emb (kp 3) hA 56)) rfl (by kernel_rfl) rfl (by kernel_rfl) _ rfl (fun w' M' => Mem.init (l := [(w0.heap.size, 23, a16 bs), (wb.heap.size, 23, #[.int .u8 32, .int .u8 1, .int .u8 13, .int .u8 184, .int .u8 192, .int .u8 0, .int .u8 2, .int .u8 33, .int .u8 0, .int .u8 0, .int .u8 0, .int .u8 0, .int .u8 0, .int .u8 0, .int .u8 0, .int .u8 0, .int .u8 32, .int .u8 1, .int .u8 13, .int .u8 184, .int .u8 1, .int .u8 192, .int .u8 0, .int .u8 2, .int .u8 0, .int .u8 33, .int .u8 0, .int .u8 0, .int .u8 0, .int .u8 0, .int .u8 0, .int .u8 0, .int .u8 32, .int .u8 1, .int .u8 13, .int .u8 184, .int .u8 1, .int .u8 34, .int .u8 192, .int .u8 0, .int .u8 0, .int .u8 2, .int .u8 33, .int .u8 0, .int .u8 0, .int .u8 0, .int .u8 0, .int .u8 0, .int .u8 32, .int .u8 1, .int .u8 13, .int .u8 184, .int .u8 1, .int .u8 34, .int .u8 3, .int .u8 192, .int .u8 0, .int .u8 0, .int .u8 2, .int .u8 33, .int .u8 0, .int .u8 0, .int .u8 0, .int .u8 0, .int .u8 32, .int .u8 1, .int .u8 13, .int .u8 184, .int .u8 1, .int .u8 34, .int .u8 3, .int .u8 68, .int .u8 0, .int .u8 192, .int .u8 0, .int .u8 2, .int .u8 33, .int .u8 0, .int .u8 0, .int .u8 0]), (wr3.heap.size, 26, netC (kp 3) 56)]) M') (fun y7 yn7 => ?_) ?_
          · try simp only [Act.put, List.setIfInBounds_toArray, List.set_cons_zero, List.set_cons_succ]
            refine tk (i := 8) (v := ?_) rfl (some 6) rfl (by kernel_rfl) (by kernel_rfl) (by kernel_rfl) (fun _ _ _ h => h) (Or.inl ⟨by rfl, ?_⟩) (Mem.init (l := [(w0.heap.size, 23, a16 bs), (wb.heap.size, 23, #[.int .u8 32, .int .u8 1, .int .u8 13, .int .u8 184, .int .u8 192, .int .u8 0, .int .u8 2, .int .u8 33, .int .u8 0, .int .u8 0, .int .u8 0, .int .u8 0, .int .u8 0, .int .u8 0, .int .u8 0, .int .u8 0, .int .u8 32, .int .u8 1, .int .u8 13, .int .u8 184, .int .u8 1, .int .u8 192, .int .u8 0, .int .u8 2, .int .u8 0, .int .u8 33, .int .u8 0, .int .u8 0, .int .u8 0, .int .u8 0, .int .u8 0, .int .u8 0, .int .u8 32, .int .u8 1, .int .u8 13, .int .u8 184, .int .u8 1, .int .u8 34, .int .u8 192, .int .u8 0, .int .u8 0, .int .u8 2, .int .u8 33, .int .u8 0, .int .u8 0, .int .u8 0, .int .u8 0, .int .u8 0, .int .u8 32, .int .u8 1, .int .u8 13, .int .u8 184, .int .u8 1, .int .u8 34, .int .u8 3, .int .u8 192, .int .u8 0, .int .u8 0, .int .u8 2, .int .u8 33, .int .u8 0, .int .u8 0, .int .u8 0, .int .u8 0, .int .u8 32, .int .u8 1, .int .u8 13, .int .u8 184, .int .u8 1, .int .u8 34, .int .u8 3, .int .u8 68, .int .u8 0, .int .u8 192, .int .u8 0, .int .u8 2, .int .u8 33, .int .u8 0, .int .u8 0, .int .u8 0]), (wr3.heap.size, 26, netC (kp 3) 56)]) yn7) ?_
            rotate_left
            · intro w hS; go_simp; try with_reducible rfl
            try simp only [Act.put, List.setIfInBounds_toArray, List.set_cons_zero, List.set_cons_succ]
            refine wpAnyH_done (by kernel_rfl) ?_ _
            go_wp2_with fail
            go_meet
            case rel => exact ⟨_, rfl, rfl, yn7⟩
          exact AllReadyH.nil
        exact AllReadyH.nil
      exact AllReadyH.nil
    refine br_alloc rfl rfl (some 5) rfl #[.int .u8 0, .int .u8 0, .int .u8 0, .int .u8 0, .int .u8 0, .int .u8 0, .int .u8 0, .int .u8 0, .int .u8 0, .int .u8 0, .int .u8 0, .int .u8 0, .int .u8 0, .int .u8 0, .int .u8 0, .int .u8 0] 23 (by kernel_rfl) (M5.alloc _) ?_ ?_
    · have yn8 := M5.new rfl 23 #[.int .u8 0, .int .u8 0, .int .u8 0, .int .u8 0, .int .u8 0, .int .u8 0, .int .u8 0, .int .u8 0, .int .u8 0, .int .u8 0, .int .u8 0, .int .u8 0, .int .u8 0, .int .u8 0, .int .u8 0, .int .u8 0]
      try simp only [Act.put, List.setIfInBounds_toArray, List.set_cons_zero, List.set_cons_succ]
      refine wpAnyH_ready (rs := [1]) (by kernel_rfl) (by simp) ?_
      refine br_call rfl rfl (some 33) rfl (host_any _) (by kernel_rfl) (fun w' hb => Mem.init (l := [(w0.heap.size, 23, a16 bs), (wb.heap.size, 23, #[.int .u8 32, .int .u8 1, .int .u8 13, .int .u8 184, .int .u8 192, .int .u8 0, .int .u8 2, .int .u8 33, .int .u8 0, .int .u8 0, .int .u8 0, .int .u8 0, .int .u8 0, .int .u8 0, .int .u8 0, .int .u8 0, .int .u8 32, .int .u8 1, .int .u8 13, .int .u8 184, .int .u8 1, .int .u8 192, .int .u8 0, .int .u8 2, .int .u8 0, .int .u8 33, .int .u8 0, .int .u8 0, .int .u8 0, .int .u8 0, .int .u8 0, .int .u8 0, .int .u8 32, .int .u8 1, .int .u8 13, .int .u8 184, .int .u8 1, .int .u8 34, .int .u8 192, .int .u8 0, .int .u8 0, .int .u8 2, .int .u8 33, .int .u8 0, .int .u8 0, .int .u8 0, .int .u8 0, .int .u8 0, .int .u8 32, .int .u8 1, .int .u8 13, .int .u8 184, .int .u8 1, .int .u8 34, .int .u8 3, .int .u8 192, .int .u8 0, .int .u8 0, .int .u8 2, .int .u8 33, .int .u8 0, .int .u8 0, .int .u8 0, .int .u8 0, .int .u8 32, .int .u8 1, .int .u8 13, .int .u8 184, .int .u8 1, .int .u8 34, .int .u8 3, .int .u8 68, .int .u8 0, .int .u8 192, .int .u8 0, .int .u8 2, .int .u8 33, .int .u8 0, .int .u8 0, .int .u8 0]), (wr3.heap.size, 26, netC (kp 3) 56)]) (yn8.call hb)) (fun y9 hb9 => ?_) ?_
      · have yn9 := yn8.call hb9
        clear hb9
        try simp only [Act.put, List.setIfInBounds_toArray, List.set_cons_zero, List.set_cons_succ]
        refine wpAnyH_ready (rs := [2]) (by kernel_rfl) (by simp) ?_
        refine br_call rfl rfl (some 34) rfl (c10_3 _) (by kernel_rfl) (fun w' hb => Mem.init (l := [(w0.heap.size, 23, a16 bs), (wb.heap.size, 23, #[.int .u8 32, .int .u8 1, .int .u8 13, .int .u8 184, .int .u8 192, .int .u8 0, .int .u8 2, .int .u8 33, .int .u8 0, .int .u8 0, .int .u8 0, .int .u8 0, .int .u8 0, .int .u8 0, .int .u8 0, .int .u8 0, .int .u8 32, .int .u8 1, .int .u8 13, .int .u8 184, .int .u8 1, .int .u8 192, .int .u8 0, .int .u8 2, .int .u8 0, .int .u8 33, .int .u8 0, .int .u8 0, .int .u8 0, .int .u8 0, .int .u8 0, .int .u8 0, .int .u8 32, .int .u8 1, .int .u8 13, .int .u8 184, .int .u8 1, .int .u8 34, .int .u8 192, .int .u8 0, .int .u8 0, .int .u8 2, .int .u8 33, .int .u8 0, .int .u8 0, .int .u8 0, .int .u8 0, .int .u8 0, .int .u8 32, .int .u8 1, .int .u8 13, .int .u8 184, .int .u8 1, .int .u8 34, .int .u8 3, .int .u8 192, .int .u8 0, .int .u8 0, .int .u8 2, .int .u8 33, .int .u8 0, .int .u8 0, .int .u8 0, .int .u8 0, .int .u8 32, .int .u8 1, .int .u8 13, .int .u8 184, .int .u8 1, .int .u8 34, .int .u8 3, .int .u8 68, .int .u8 0, .int .u8 192, .int .u8 0, .int .u8 2, .int .u8 33, .int .u8 0, .int .u8 0, .int .u8 0]), (wr3.heap.size, 26, netC (kp 3) 56)]) (yn9.call hb)) (fun y10 hb10 => ?_) ?_
        · have yn10 := yn9.call hb10
          clear hb10
          try simp only [Act.put, List.setIfInBounds_toArray, List.set_cons_zero, List.set_cons_succ]
          refine tk (i := 3) (v := ?_) rfl (some 31) rfl (by kernel_rfl) (by kernel_rfl) (by kernel_rfl) (fun _ _ _ h => h) (Or.inl ⟨by rfl, ?_⟩) (Mem.init (l := [(w0.heap.size, 23, a16 bs), (wb.heap.size, 23, #[.int .u8 32, .int .u8 1, .int .u8 13, .int .u8 184, .int .u8 192, .int .u8 0, .int .u8 2, .int .u8 33, .int .u8 0, .int .u8 0, .int .u8 0, .int .u8 0, .int .u8 0, .int .u8 0, .int .u8 0, .int .u8 0, .int .u8 32, .int .u8 1, .int .u8 13, .int .u8 184, .int .u8 1, .int .u8 192, .int .u8 0, .int .u8 2, .int .u8 0, .int .u8 33, .int .u8 0, .int .u8 0, .int .u8 0, .int .u8 0, .int .u8 0, .int .u8 0, .int .u8 32, .int .u8 1, .int .u8 13, .int .u8 184, .int .u8 1, .int .u8 34, .int .u8 192, .int .u8 0, .int .u8 0, .int .u8 2, .int .u8 33, .int .u8 0, .int .u8 0, .int .u8 0, .int .u8 0, .int .u8 0, .int .u8 32, .int .u8 1, .int .u8 13, .int .u8 184, .int .u8 1, .int .u8 34, .int .u8 3, .int .u8 192, .int .u8 0, .int .u8 0, .int .u8 2, .int .u8 33, .int .u8 0, .int .u8 0, .int .u8 0, .int .u8 0, .int .u8 32, .int .u8 1, .int .u8 13, .int .u8 184, .int .u8 1, .int .u8 34, .int .u8 3, .int .u8 68, .int .u8 0, .int .u8 192, .int .u8 0, .int .u8 2, .int .u8 33, .int .u8 0, .int .u8 0, .int .u8 0]), (wr3.heap.size, 26, netC (kp 3) 56)]) yn10) ?_
          rotate_left
          · intro w hS; go_simp; try with_reducible rfl
          try simp only [Act.put, List.setIfInBounds_toArray, List.set_cons_zero, List.set_cons_succ]
          refine tk (i := 4) (v := ?_) rfl (some 35) rfl (by kernel_rfl) (by kernel_rfl) (by kernel_rfl) (fun _ _ _ h => h) (Or.inl ⟨by rfl, ?_⟩) (Mem.init (l := [(w0.heap.size, 23, a16 bs), (wb.heap.size, 23, #[.int .u8 32, .int .u8 1, .int .u8 13, .int .u8 184, .int .u8 192, .int .u8 0, .int .u8 2, .int .u8 33, .int .u8 0, .int .u8 0, .int .u8 0, .int .u8 0, .int .u8 0, .int .u8 0, .int .u8 0, .int .u8 0, .int .u8 32, .int .u8 1, .int .u8 13, .int .u8 184, .int .u8 1, .int .u8 192, .int .u8 0, .int .u8 2, .int .u8 0, .int .u8 33, .int .u8 0, .int .u8 0, .int .u8 0, .int .u8 0, .int .u8 0, .int .u8 0, .int .u8 32, .int .u8 1, .int .u8 13, .int .u8 184, .int .u8 1, .int .u8 34, .int .u8 192, .int .u8 0, .int .u8 0, .int .u8 2, .int .u8 33, .int .u8 0, .int .u8 0, .int .u8 0, .int .u8 0, .int .u8 0, .int .u8 32, .int .u8 1, .int .u8 13, .int .u8 184, .int .u8 1, .int .u8 34, .int .u8 3, .int .u8 192, .int .u8 0, .int .u8 0, .int .u8 2, .int .u8 33, .int .u8 0, .int .u8 0, .int .u8 0, .int .u8 0, .int .u8 32, .int .u8 1, .int .u8 13, .int .u8 184, .int .u8 1, .int .u8 34, .int .u8 3, .int .u8 68, .int .u8 0, .int .u8 192, .int .u8 0, .int .u8 2, .int .u8 33, .int .u8 0, .int .u8 0, .int .u8 0]), (wr3.heap.size, 26, netC (kp 3) 56)]) yn10) ?_
          rotate_left
          · intro w hS; go_simp; try with_reducible rfl
          try simp only [Act.put, List.setIfInBounds_toArray, List.set_cons_zero, List.set_cons_succ]
          refine tk (i := 5) (v := ?_) rfl (some 36) rfl (by kernel_rfl) (by kernel_rfl) (by kernel_rfl) (fun _ _ _ h => h) (Or.inl ⟨by rfl, ?_⟩) (Mem.init (l := [(w0.heap.size, 23, a16 bs), (wb.heap.size, 23, #[.int .u8 32, .int .u8 1, .int .u8 13, .int .u8 184, .int .u8 192, .int .u8 0, .int .u8 2, .int .u8 33, .int .u8 0, .int .u8 0, .int .u8 0, .int .u8 0, .int .u8 0, .int .u8 0, .int .u8 0, .int .u8 0, .int .u8 32, .int .u8 1, .int .u8 13, .int .u8 184, .int .u8 1, .int .u8 192, .int .u8 0, .int .u8 2, .int .u8 0, .int .u8 33, .int .u8 0, .int .u8 0, .int .u8 0, .int .u8 0, .int .u8 0, .int .u8 0, .int .u8 32, .int .u8 1, .int .u8 13, .int .u8 184, .int .u8 1, .int .u8 34, .int .u8 192, .int .u8 0, .int .u8 0, .int .u8 2, .int .u8 33, .int .u8 0, .int .u8 0, .int .u8 0, .int .u8 0, .int .u8 0, .int .u8 32, .int .u8 1, .int .u8 13, .int .u8 184, .int .u8 1, .int .u8 34, .int .u8 3, .int .u8 192, .int .u8 0, .int .u8 0, .int .u8 2, .int .u8 33, .int .u8 0, .int .u8 0, .int .u8 0, .int .u8 0, .int .u8 32, .int .u8 1, .int .u8 13, .int .u8 184, .int .u8 1, .int .u8 34, .int .u8 3, .int .u8 68, .int .u8 0, .int .u8 192, .int .u8 0, .int .u8 2, .int .u8 33, .int .u8 0, .int .u8 0, .int .u8 0]), (wr3.heap.size, 26, netC (kp 3) 56)]) yn10) ?_
          rotate_left
          · intro w hS; go_simp; try with_reducible rfl
          try simp only [Act.put, List.setIfInBounds_toArray, List.set_cons_zero, List.set_cons_succ]
          refine wpAnyH_ready (rs := [7]) (by kernel_rfl) (by simp) ?_
          refine br_store yn10 3 rfl rfl 23 (.tmp 5) _ rfl rfl rfl rfl (a16 (emb (kp 3) hA 56)) rfl (by kernel_rfl) rfl (by kernel_rfl) _ rfl (fun w' M' => Mem.init (l := [(w0.heap.size, 23, a16 bs), (wb.heap.size, 23, #[.int .u8 32, .int .u8 1, .int .u8 13, .int .u8 184, .int .u8 192, .int .u8 0, .int .u8 2, .int .u8 33, .int .u8 0, .int .u8 0, .int .u8 0, .int .u8 0, .int .u8 0, .int .u8 0, .int .u8 0, .int .u8 0, .int .u8 32, .int .u8 1, .int .u8 13, .int .u8 184, .int .u8 1, .int .u8 192, .int .u8 0, .int .u8 2, .int .u8 0, .int .u8 33, .int .u8 0, .int .u8 0, .int .u8 0, .int .u8 0, .int .u8 0, .int .u8 0, .int .u8 32, .int .u8 1, .int .u8 13, .int .u8 184, .int .u8 1, .int .u8 34, .int .u8 192, .int .u8 0, .int .u8 0, .int .u8 2, .int .u8 33, .int .u8 0, .int .u8 0, .int .u8 0, .int .u8 0, .int .u8 0, .int .u8 32, .int .u8 1, .int .u8 13, .int .u8 184, .int .u8 1, .int .u8 34, .int .u8 3, .int .u8 192, .int .u8 0, .int .u8 0, .int .u8 2, .int .u8 33, .int .u8 0, .int .u8 0, .int .u8 0, .int .u8 0, .int .u8 32, .int .u8 1, .int .u8 13, .int .u8 184, .int .u8 1, .int .u8 34, .int .u8 3, .int .u8 68, .int .u8 0, .int .u8 192, .int .u8 0, .int .u8 2, .int .u8 33, .int .u8 0, .int .u8 0, .int .u8 0]), (wr3.heap.size, 26, netC (kp 3) 56)]) M') (fun y11 yn11 => ?_) ?_
          · try simp only [Act.put, List.setIfInBounds_toArray, List.set_cons_zero, List.set_cons_succ]
            refine tk (i := 8) (v := ?_) rfl (some 6) rfl (by kernel_rfl) (by kernel_rfl) (by kernel_rfl) (fun _ _ _ h => h) (Or.inl ⟨by rfl, ?_⟩) (Mem.init (l := [(w0.heap.size, 23, a16 bs), (wb.heap.size, 23, #[.int .u8 32, .int .u8 1, .int .u8 13, .int .u8 184, .int .u8 192, .int .u8 0, .int .u8 2, .int .u8 33, .int .u8 0, .int .u8 0, .int .u8 0, .int .u8 0, .int .u8 0, .int .u8 0, .int .u8 0, .int .u8 0, .int .u8 32, .int .u8 1, .int .u8 13, .int .u8 184, .int .u8 1, .int .u8 192, .int .u8 0, .int .u8 2, .int .u8 0, .int .u8 33, .int .u8 0, .int .u8 0, .int .u8 0, .int .u8 0, .int .u8 0, .int .u8 0, .int .u8 32, .int .u8 1, .int .u8 13, .int .u8 184, .int .u8 1, .int .u8 34, .int .u8 192, .int .u8 0, .int .u8 0, .int .u8 2, .int .u8 33, .int .u8 0, .int .u8 0, .int .u8 0, .int .u8 0, .int .u8 0, .int .u8 32, .int .u8 1, .int .u8 13, .int .u8 184, .int .u8 1, .int .u8 34, .int .u8 3, .int .u8 192, .int .u8 0, .int .u8 0, .int .u8 2, .int .u8 33, .int .u8 0, .int .u8 0, .int .u8 0, .int .u8 0, .int .u8 32, .int .u8 1, .int .u8 13, .int .u8 184, .int .u8 1, .int .u8 34, .int .u8 3, .int .u8 68, .int .u8 0, .int .u8 192, .int .u8 0, .int .u8 2, .int .u8 33, .int .u8 0, .int .u8 0, .int .u8 0]), (wr3.heap.size, 26, netC (kp 3) 56)]) yn11) ?_
            rotate_left
            · intro w hS; go_simp; try with_reducible rfl
            try simp only [Act.put, List.setIfInBounds_toArray, List.set_cons_zero, List.set_cons_succ]
            refine wpAnyH_done (by kernel_rfl) ?_ _
            go_wp2_with fail
            go_meet
            case rel => exact ⟨_, rfl, rfl, yn11⟩
          exact AllReadyH.nil
        exact AllReadyH.nil
      exact AllReadyH.nil
    exact AllReadyH.nil
  obtain ⟨g5_3, rfl, rfl, MZ3⟩ := hcut
  clear MC3
  go_upto_region 9 with fail
  refine hide_l MZ3 (fun wy3 MY3 => ?_)
  clear MZ3
  refine wp_region_held_drew (S := fun w' => Mem w w' _) (by kernel_rfl) MY3.drew (fun _ => ?_)
  have MX3 := MY3.drew
  clear MY3
  refine tk (i := 0) (v := ?_) rfl (some 37) rfl (by kernel_rfl) (by kernel_rfl) (by kernel_rfl) (fun _ _ _ h => h) (Or.inl ⟨by kernel_rfl, ?_⟩) MX3 ?_
  rotate_left
  · intro w hS; go_simp; (try simp only [IntKind.wrap_i64, Int.reduceAdd, Int.reduceSub, Int.reduceMul, Int.reduceMod, Int.reducePow, Int.reduceNeg]); try with_reducible rfl
  try simp only [Act.put, List.setIfInBounds_toArray, List.set_cons_zero, List.set_cons_succ]
  refine tk (i := 1) (v := ?_) rfl (some 38) rfl (by kernel_rfl) (by kernel_rfl) (by kernel_rfl) (fun _ _ _ h => h) (Or.inl ⟨by kernel_rfl, ?_⟩) MX3 ?_
  rotate_left
  · intro w hS; go_simp; (try simp only [IntKind.wrap_i64, Int.reduceAdd, Int.reduceSub, Int.reduceMul, Int.reduceMod, Int.reducePow, Int.reduceNeg]); try with_reducible rfl
  try simp only [Act.put, List.setIfInBounds_toArray, List.set_cons_zero, List.set_cons_succ]
  refine tk (i := 2) (v := ?_) rfl (some 39) rfl (by kernel_rfl) (by kernel_rfl) (by kernel_rfl) (fun _ _ _ h => h) (Or.inl ⟨by kernel_rfl, ?_⟩) MX3 ?_
  rotate_left
  · intro w hS; go_simp; (try simp only [IntKind.wrap_i64, Int.reduceAdd, Int.reduceSub, Int.reduceMul, Int.reduceMod, Int.reducePow, Int.reduceNeg]); try with_reducible rfl
  try simp only [Act.put, List.setIfInBounds_toArray, List.set_cons_zero, List.set_cons_succ]
  refine tk (i := 3) rfl (some 40) rfl (by kernel_rfl) (by kernel_rfl) (by kernel_rfl) (fun _ _ _ h => h) (yi_row 3 23 (.tmp 5) rfl (by kernel_rfl) rfl rfl Try.underlying23 rfl (by kernel_rfl)) MX3 ?_
  try simp only [Act.put, List.setIfInBounds_toArray, List.set_cons_zero, List.set_cons_succ]
  refine tk (i := 4) (v := ?_) rfl (some 41) rfl (by kernel_rfl) (by kernel_rfl) (by kernel_rfl) (fun _ _ _ h => h) (Or.inl ⟨by kernel_rfl, ?_⟩) MX3 ?_
  rotate_left
  · intro w hS; go_simp; (try simp only [IntKind.wrap_i64, Int.reduceAdd, Int.reduceSub, Int.reduceMul, Int.reduceMod, Int.reducePow, Int.reduceNeg]); try with_reducible rfl
  try simp only [Act.put, List.setIfInBounds_toArray, List.set_cons_zero, List.set_cons_succ]
  refine tk (i := 5) (v := ?_) rfl (some 42) rfl (by kernel_rfl) (by kernel_rfl) (by kernel_rfl) (fun _ _ _ h => h) (Or.inl ⟨by kernel_rfl, ?_⟩) MX3 ?_
  rotate_left
  · intro w hS; go_simp; (try simp only [IntKind.wrap_i64, Int.reduceAdd, Int.reduceSub, Int.reduceMul, Int.reduceMod, Int.reducePow, Int.reduceNeg]); try with_reducible rfl
  try simp only [Act.put, List.setIfInBounds_toArray, List.set_cons_zero, List.set_cons_succ]
  refine tk (i := 6) (v := ?_) rfl (some 43) rfl (by kernel_rfl) (by kernel_rfl) (by kernel_rfl) (fun _ _ _ h => h) (Or.inl ⟨by kernel_rfl, ?_⟩) MX3 ?_
  rotate_left
  · intro w hS; go_simp; (try simp only [IntKind.wrap_i64, Int.reduceAdd, Int.reduceSub, Int.reduceMul, Int.reduceMod, Int.reducePow, Int.reduceNeg]); try with_reducible rfl
  try simp only [Act.put, List.setIfInBounds_toArray, List.set_cons_zero, List.set_cons_succ]
  refine tk (i := 7) rfl (some 44) rfl (by kernel_rfl) (by kernel_rfl) (by kernel_rfl) (fun _ _ _ h => h) (yi_part 1 23 (.tmp 43) rfl (by kernel_rfl) rfl 48 rfl #[.int .u8 32, .int .u8 1, .int .u8 13, .int .u8 184, .int .u8 1, .int .u8 34, .int .u8 3, .int .u8 192, .int .u8 0, .int .u8 0, .int .u8 2, .int .u8 33, .int .u8 0, .int .u8 0, .int .u8 0, .int .u8 0] Try.underlying23 rfl (by kernel_rfl) (by kernel_rfl)) MX3 ?_
  try simp only [Act.put, List.setIfInBounds_toArray, List.set_cons_zero, List.set_cons_succ]
  refine tk (i := 8) (v := ?_) rfl (some 45) rfl (by kernel_rfl) (by kernel_rfl) (by kernel_rfl) (fun _ _ _ h => h) (Or.inl ⟨by kernel_rfl, ?_⟩) MX3 ?_
  rotate_left
  · intro w hS; go_simp; (try simp only [IntKind.wrap_i64, Int.reduceAdd, Int.reduceSub, Int.reduceMul, Int.reduceMod, Int.reducePow, Int.reduceNeg]); try with_reducible rfl
  try simp only [Act.put, List.setIfInBounds_toArray, List.set_cons_zero, List.set_cons_succ]
  refine tk (i := 9) (v := ?_) rfl (some 46) rfl (by kernel_rfl) (by kernel_rfl) (by kernel_rfl) (fun _ _ _ h => h) (Or.inl ⟨by kernel_rfl, ?_⟩) MX3 ?_
  rotate_left
  · intro w hS; go_simp; (try simp only [IntKind.wrap_i64, Int.reduceAdd, Int.reduceSub, Int.reduceMul, Int.reduceMod, Int.reducePow, Int.reduceNeg]); try with_reducible rfl
  try simp only [Act.put, List.setIfInBounds_toArray, List.set_cons_zero, List.set_cons_succ]
  refine wpAnyH_done (by kernel_rfl) ?_ _
  go_upto_region 5 with fail
  refine wp_region_lit ?_
  refine lv (by kernel_rfl) (some 18) rfl (v := ?_) ?_ ?_
  rotate_left
  · go_simp; (try simp only [IntKind.wrap_i64, Int.reduceAdd, Int.reduceSub, Int.reduceMul, Int.reduceMod, Int.reducePow, Int.reduceNeg]); try with_reducible rfl
  try simp only [Act.put, List.setIfInBounds_toArray, List.set_cons_zero, List.set_cons_succ]
  refine lv (by kernel_rfl) (some 19) rfl (v := ?_) ?_ ?_
  rotate_left
  · go_simp; (try simp only [IntKind.wrap_i64, Int.reduceAdd, Int.reduceSub, Int.reduceMul, Int.reduceMod, Int.reducePow, Int.reduceNeg]); try with_reducible rfl
  try simp only [Act.put, List.setIfInBounds_toArray, List.set_cons_zero, List.set_cons_succ]
  refine lv (by kernel_rfl) (some 3) rfl (v := ?_) ?_ ?_
  rotate_left
  · go_simp; (try simp only [IntKind.wrap_i64, Int.reduceAdd, Int.reduceSub, Int.reduceMul, Int.reduceMod, Int.reducePow, Int.reduceNeg]); try with_reducible rfl
  try simp only [Act.put, List.setIfInBounds_toArray, List.set_cons_zero, List.set_cons_succ]
  refine wpList_nil ?_
  go_wp2_with fail
  have ME3 : Mem w _ [(w0.heap.size, 23, a16 bs), (wb.heap.size, 23, #[.int .u8 32, .int .u8 1, .int .u8 13, .int .u8 184, .int .u8 192, .int .u8 0, .int .u8 2, .int .u8 33, .int .u8 0, .int .u8 0, .int .u8 0, .int .u8 0, .int .u8 0, .int .u8 0, .int .u8 0, .int .u8 0, .int .u8 32, .int .u8 1, .int .u8 13, .int .u8 184, .int .u8 1, .int .u8 192, .int .u8 0, .int .u8 2, .int .u8 0, .int .u8 33, .int .u8 0, .int .u8 0, .int .u8 0, .int .u8 0, .int .u8 0, .int .u8 0, .int .u8 32, .int .u8 1, .int .u8 13, .int .u8 184, .int .u8 1, .int .u8 34, .int .u8 192, .int .u8 0, .int .u8 0, .int .u8 2, .int .u8 33, .int .u8 0, .int .u8 0, .int .u8 0, .int .u8 0, .int .u8 0, .int .u8 32, .int .u8 1, .int .u8 13, .int .u8 184, .int .u8 1, .int .u8 34, .int .u8 3, .int .u8 192, .int .u8 0, .int .u8 0, .int .u8 2, .int .u8 33, .int .u8 0, .int .u8 0, .int .u8 0, .int .u8 0, .int .u8 32, .int .u8 1, .int .u8 13, .int .u8 184, .int .u8 1, .int .u8 34, .int .u8 3, .int .u8 68, .int .u8 0, .int .u8 192, .int .u8 0, .int .u8 2, .int .u8 33, .int .u8 0, .int .u8 0, .int .u8 0])] := Mem.init (r := [_, _]) MX3
  clear MX3
  rw [rounds_succ]
  refine hide_l ME3 (fun wr4 MR4 => ?_)
  clear ME3
  go_upto_region 4 with fail
  refine wp_region_lit ?_
  refine lv (by kernel_rfl) (some 16) rfl (v := ?_) ?_ ?_
  rotate_left
  · go_simp; (try simp only [IntKind.wrap_i64, Int.reduceAdd, Int.reduceSub, Int.reduceMul, Int.reduceMod, Int.reducePow, Int.reduceNeg]); try with_reducible rfl
  try simp only [Act.put, List.setIfInBounds_toArray, List.set_cons_zero, List.set_cons_succ]
  refine lv (by kernel_rfl) (some 17) rfl (v := ?_) ?_ ?_
  rotate_left
  · go_simp; (try simp only [IntKind.wrap_i64, Int.reduceAdd, Int.reduceSub, Int.reduceMul, Int.reduceMod, Int.reducePow, Int.reduceNeg]); try with_reducible rfl
  try simp only [Act.put, List.setIfInBounds_toArray, List.set_cons_zero, List.set_cons_succ]
  refine wpList_nil ?_
  go_upto_region 6 with fail
  refine wp_region_lit ?_
  refine lv (by kernel_rfl) (some 20) rfl (v := ?_) ?_ ?_
  rotate_left
  · go_simp; (try simp only [IntKind.wrap_i64, Int.reduceAdd, Int.reduceSub, Int.reduceMul, Int.reduceMod, Int.reducePow, Int.reduceNeg]); try with_reducible rfl
  try simp only [Act.put, List.setIfInBounds_toArray, List.set_cons_zero, List.set_cons_succ]
  refine lv (by kernel_rfl) (some 21) rfl (v := ?_) ?_ ?_
  rotate_left
  · go_simp; (try simp only [IntKind.wrap_i64, Int.reduceAdd, Int.reduceSub, Int.reduceMul, Int.reduceMod, Int.reducePow, Int.reduceNeg]); try with_reducible rfl
  try simp only [Act.put, List.setIfInBounds_toArray, List.set_cons_zero, List.set_cons_succ]
  refine lv (by kernel_rfl) (some 22) rfl (v := ?_) ?_ ?_
  rotate_left
  · go_simp; (try simp only [IntKind.wrap_i64, Int.reduceAdd, Int.reduceSub, Int.reduceMul, Int.reduceMod, Int.reducePow, Int.reduceNeg]); try with_reducible rfl
  try simp only [Act.put, List.setIfInBounds_toArray, List.set_cons_zero, List.set_cons_succ]
  refine lv (by kernel_rfl) (some 23) rfl (v := ?_) ?_ ?_
  rotate_left
  · go_simp; (try simp only [IntKind.wrap_i64, Int.reduceAdd, Int.reduceSub, Int.reduceMul, Int.reduceMod, Int.reducePow, Int.reduceNeg]); try with_reducible rfl
  try simp only [Act.put, List.setIfInBounds_toArray, List.set_cons_zero, List.set_cons_succ]
  refine l_alloc (by kernel_rfl) (some 4) rfl #[.int .u8 0, .int .u8 0, .int .u8 0, .int .u8 0, .int .u8 0, .int .u8 0, .int .u8 0, .int .u8 0, .int .u8 0, .int .u8 0, .int .u8 0, .int .u8 0, .int .u8 0, .int .u8 0, .int .u8 0, .int .u8 0, .int .i64 0] 26 (by kernel_rfl) ?_
  have MP4 := MR4.new rfl 26 #[.int .u8 0, .int .u8 0, .int .u8 0, .int .u8 0, .int .u8 0, .int .u8 0, .int .u8 0, .int .u8 0, .int .u8 0, .int .u8 0, .int .u8 0, .int .u8 0, .int .u8 0, .int .u8 0, .int .u8 0, .int .u8 0, .int .i64 0]
  clear MR4
  try simp only [List.cons_append, List.nil_append, List.set_cons_zero, List.set_cons_succ] at MP4
  try simp only [Act.put, List.setIfInBounds_toArray, List.set_cons_zero, List.set_cons_succ]
  refine l_store MP4 2 (by kernel_rfl) 26 (.tmp 4) _ rfl rfl rfl rfl #[.int .u8 0, .int .u8 0, .int .u8 0, .int .u8 0, .int .u8 0, .int .u8 0, .int .u8 0, .int .u8 0, .int .u8 0, .int .u8 0, .int .u8 0, .int .u8 0, .int .u8 0, .int .u8 0, .int .u8 0, .int .u8 0, .int .i64 64] rfl (by kernel_rfl) (by rfl) (by kernel_rfl) _ rfl (fun wp4 MQ4 => ?_)
  clear MP4
  try simp only [List.cons_append, List.nil_append, List.set_cons_zero, List.set_cons_succ] at MQ4
  try simp only [Act.put, List.setIfInBounds_toArray, List.set_cons_zero, List.set_cons_succ]
  refine wpList_nil ?_
  go_upto_region 7 with fail
  have C7 : wp4.drew.cell? ⟨wr4.heap.size, 16, none⟩ = some (.int .i64 64) := (MQ4.row (i := 2) rfl).cell rfl
  refine wp_region_held_drew (S := fun w' => w'.cell? ⟨wr4.heap.size, 16, none⟩ = some (.int .i64 64)) (by kernel_rfl) C7 (fun _ => ?_)
  have MD4 := MQ4.drew
  clear MQ4
  refine tk (i := 0) (v := ?_) rfl (some 24) rfl (by kernel_rfl) (by kernel_rfl) (by kernel_rfl) (fun _ _ _ h => h) (Or.inl ⟨by kernel_rfl, ?_⟩) C7 ?_
  rotate_left
  · intro w hS; (try dsimp only at hS); go_simp; (try simp only [IntKind.wrap_i64, Int.reduceAdd, Int.reduceSub, Int.reduceMul, Int.reduceMod, Int.reducePow, Int.reduceNeg]); try with_reducible rfl
  try simp only [Act.put, List.setIfInBounds_toArray, List.set_cons_zero, List.set_cons_succ]
  refine tk (i := 1) (v := ?_) rfl (some 25) rfl (by kernel_rfl) (by kernel_rfl) (by kernel_rfl) (fun _ _ _ h => h) (Or.inl ⟨by kernel_rfl, ?_⟩) C7 ?_
  rotate_left
  · intro w hS; (try dsimp only at hS); go_simp; (try simp only [IntKind.wrap_i64, Int.reduceAdd, Int.reduceSub, Int.reduceMul, Int.reduceMod, Int.reducePow, Int.reduceNeg]); try with_reducible rfl
  try simp only [Act.put, List.setIfInBounds_toArray, List.set_cons_zero, List.set_cons_succ]
  refine tk (i := 2) (v := ?_) rfl (some 26) rfl (by kernel_rfl) (by kernel_rfl) (by kernel_rfl) (fun _ _ _ h => h) (Or.inl ⟨by kernel_rfl, ?_⟩) C7 ?_
  rotate_left
  · intro w hS; (try dsimp only at hS); go_simp; (try simp only [IntKind.wrap_i64, Int.reduceAdd, Int.reduceSub, Int.reduceMul, Int.reduceMod, Int.reducePow, Int.reduceNeg]); try with_reducible rfl
  try simp only [Act.put, List.setIfInBounds_toArray, List.set_cons_zero, List.set_cons_succ]
  refine tk (i := 3) (v := ?_) rfl (some 27) rfl (by kernel_rfl) (by kernel_rfl) (by kernel_rfl) (fun _ _ _ h => h) (Or.inl ⟨by kernel_rfl, ?_⟩) C7 ?_
  rotate_left
  · intro w hS; (try dsimp only at hS); go_simp; (try simp only [IntKind.wrap_i64, Int.reduceAdd, Int.reduceSub, Int.reduceMul, Int.reduceMod, Int.reducePow, Int.reduceNeg]); try with_reducible rfl
  try simp only [Act.put, List.setIfInBounds_toArray, List.set_cons_zero, List.set_cons_succ]
  refine tk (i := 4) (v := ?_) rfl (some 28) rfl (by kernel_rfl) (by kernel_rfl) (by kernel_rfl) (fun _ _ _ h => h) (Or.inl ⟨by kernel_rfl, ?_⟩) C7 ?_
  rotate_left
  · intro w hS; (try dsimp only at hS); go_simp; (try simp only [IntKind.wrap_i64, Int.reduceAdd, Int.reduceSub, Int.reduceMul, Int.reduceMod, Int.reducePow, Int.reduceNeg]); try with_reducible rfl
  try simp only [Act.put, List.setIfInBounds_toArray, List.set_cons_zero, List.set_cons_succ]
  refine tk (i := 5) (v := ?_) rfl (some 29) rfl (by kernel_rfl) (by kernel_rfl) (by kernel_rfl) (fun _ _ _ h => h) (Or.inl ⟨by kernel_rfl, ?_⟩) C7 ?_
  rotate_left
  · intro w hS; (try dsimp only at hS); go_simp; (try simp only [IntKind.wrap_i64, Int.reduceAdd, Int.reduceSub, Int.reduceMul, Int.reduceMod, Int.reducePow, Int.reduceNeg]); try with_reducible rfl
  try simp only [Act.put, List.setIfInBounds_toArray, List.set_cons_zero, List.set_cons_succ]
  refine wpAnyH_ready (rs := [6]) (by kernel_rfl) (by simp) ?_
  refine br_copy MD4 2 0 rfl (by kernel_rfl) (some 30) rfl (.tmp 28) (.tmp 29) rfl rfl rfl 8 16 16 16 rfl rfl [.int .u8 (bs 0), .int .u8 (bs 1), .int .u8 (bs 2), .int .u8 (bs 3), .int .u8 (bs 4), .int .u8 (bs 5), .int .u8 (bs 6), .int .u8 (bs 7)] rfl rfl (by kernel_rfl) (by kernel_rfl) (netC (kp 4) 64) (by kernel_rfl) _ rfl (fun w' M' => (M'.row (i := 2) rfl).cell rfl) (fun wq4 MC4 => ?_) AllReadyH.nil
  clear C7
  clear MD4
  try simp only [List.cons_append, List.nil_append, List.set_cons_zero, List.set_cons_succ] at MC4
  try simp only [Act.put, List.setIfInBounds_toArray, List.set_cons_zero, List.set_cons_succ]
  refine wpAnyH_done (by kernel_rfl) ?_ _
  go_upto_region 8 with fail
  go_cut [5, 6] (fun s t wz => ∃ g, s = .pointer (some ⟨g, 0, none⟩) ∧ t = .bool true ∧ Mem w wz [(w0.heap.size, 23, a16 bs), (wb.heap.size, 23, #[.int .u8 32, .int .u8 1, .int .u8 13, .int .u8 184, .int .u8 192, .int .u8 0, .int .u8 2, .int .u8 33, .int .u8 0, .int .u8 0, .int .u8 0, .int .u8 0, .int .u8 0, .int .u8 0, .int .u8 0, .int .u8 0, .int .u8 32, .int .u8 1, .int .u8 13, .int .u8 184, .int .u8 1, .int .u8 192, .int .u8 0, .int .u8 2, .int .u8 0, .int .u8 33, .int .u8 0, .int .u8 0, .int .u8 0, .int .u8 0, .int .u8 0, .int .u8 0, .int .u8 32, .int .u8 1, .int .u8 13, .int .u8 184, .int .u8 1, .int .u8 34, .int .u8 192, .int .u8 0, .int .u8 0, .int .u8 2, .int .u8 33, .int .u8 0, .int .u8 0, .int .u8 0, .int .u8 0, .int .u8 0, .int .u8 32, .int .u8 1, .int .u8 13, .int .u8 184, .int .u8 1, .int .u8 34, .int .u8 3, .int .u8 192, .int .u8 0, .int .u8 0, .int .u8 2, .int .u8 33, .int .u8 0, .int .u8 0, .int .u8 0, .int .u8 0, .int .u8 32, .int .u8 1, .int .u8 13, .int .u8 184, .int .u8 1, .int .u8 34, .int .u8 3, .int .u8 68, .int .u8 0, .int .u8 192, .int .u8 0, .int .u8 2, .int .u8 33, .int .u8 0, .int .u8 0, .int .u8 0]), (wr4.heap.size, 26, netC (kp 4) 64), (g, 23, (a16 (emb (kp 4) hA 64)))])
  case first =>
    refine wp_region_held_drew (S := fun w' => Mem w w' [(w0.heap.size, 23, a16 bs), (wb.heap.size, 23, #[.int .u8 32, .int .u8 1, .int .u8 13, .int .u8 184, .int .u8 192, .int .u8 0, .int .u8 2, .int .u8 33, .int .u8 0, .int .u8 0, .int .u8 0, .int .u8 0, .int .u8 0, .int .u8 0, .int .u8 0, .int .u8 0, .int .u8 32, .int .u8 1, .int .u8 13, .int .u8 184, .int .u8 1, .int .u8 192, .int .u8 0, .int .u8 2, .int .u8 0, .int .u8 33, .int .u8 0, .int .u8 0, .int .u8 0, .int .u8 0, .int .u8 0, .int .u8 0, .int .u8 32, .int .u8 1, .int .u8 13, .int .u8 184, .int .u8 1, .int .u8 34, .int .u8 192, .int .u8 0, .int .u8 0, .int .u8 2, .int .u8 33, .int .u8 0, .int .u8 0, .int .u8 0, .int .u8 0, .int .u8 0, .int .u8 32, .int .u8 1, .int .u8 13, .int .u8 184, .int .u8 1, .int .u8 34, .int .u8 3, .int .u8 192, .int .u8 0, .int .u8 0, .int .u8 2, .int .u8 33, .int .u8 0, .int .u8 0, .int .u8 0, .int .u8 0, .int .u8 32, .int .u8 1, .int .u8 13, .int .u8 184, .int .u8 1, .int .u8 34, .int .u8 3, .int .u8 68, .int .u8 0, .int .u8 192, .int .u8 0, .int .u8 2, .int .u8 33, .int .u8 0, .int .u8 0, .int .u8 0]), (wr4.heap.size, 26, netC (kp 4) 64)]) (by kernel_rfl) MC4.drew (fun M5 => ?_)
    refine tk (i := 0) rfl (some 32) rfl (by kernel_rfl) (by kernel_rfl) (by kernel_rfl) (fun _ _ _ h => h) (yi_row 2 26 (.tmp 4) rfl rfl rfl rfl Try.underlying26 rfl (by kernel_rfl)) M5 ?_
    try simp only [Act.put, List.setIfInBounds_toArray, List.set_cons_zero, List.set_cons_succ]
    refine wpAnyH_ready (rs := [1, 6]) (by kernel_rfl) (by simp) ?_
    refine br_call rfl rfl (some 33) rfl (host_any _) (by kernel_rfl) (fun w' hb => M5.call hb) (fun y1 hb1 => ?_) ?_
    · have yn1 := M5.call hb1
      clear hb1
      try simp only [Act.put, List.setIfInBounds_toArray, List.set_cons_zero, List.set_cons_succ]
      refine wpAnyH_ready (rs := [2, 6]) (by kernel_rfl) (by simp) ?_
      refine br_call rfl rfl (some 34) rfl (c10_4 _) (by kernel_rfl) (fun w' hb => yn1.call hb) (fun y2 hb2 => ?_) ?_
      · have yn2 := yn1.call hb2
        clear hb2
        try simp only [Act.put, List.setIfInBounds_toArray, List.set_cons_zero, List.set_cons_succ]
        refine tk (i := 3) (v := ?_) rfl (some 31) rfl (by kernel_rfl) (by kernel_rfl) (by kernel_rfl) (fun _ _ _ h => h) (Or.inl ⟨by rfl, ?_⟩) yn2 ?_
        rotate_left
        · intro w hS; go_simp; try with_reducible rfl
        try simp only [Act.put, List.setIfInBounds_toArray, List.set_cons_zero, List.set_cons_succ]
        refine tk (i := 4) (v := ?_) rfl (some 35) rfl (by kernel_rfl) (by kernel_rfl) (by kernel_rfl) (fun _ _ _ h => h) (Or.inl ⟨by rfl, ?_⟩) yn2 ?_
        rotate_left
        · intro w hS; go_simp; try with_reducible rfl
        try simp only [Act.put, List.setIfInBounds_toArray, List.set_cons_zero, List.set_cons_succ]
        refine tk (i := 5) (v := ?_) rfl (some 36) rfl (by kernel_rfl) (by kernel_rfl) (by kernel_rfl) (fun _ _ _ h => h) (Or.inl ⟨by rfl, ?_⟩) yn2 ?_
        rotate_left
        · intro w hS; go_simp; try with_reducible rfl
        try simp only [Act.put, List.setIfInBounds_toArray, List.set_cons_zero, List.set_cons_succ]
        refine wpAnyH_ready (rs := [6]) (by kernel_rfl) (by simp) ?_
        refine br_alloc rfl rfl (some 5) rfl #[.int .u8 0, .int .u8 0, .int .u8 0, .int .u8 0, .int .u8 0, .int .u8 0, .int .u8 0, .int .u8 0, .int .u8 0, .int .u8 0, .int .u8 0, .int .u8 0, .int .u8 0, .int .u8 0, .int .u8 0, .int .u8 0] 23 (by kernel_rfl) (yn2.alloc _) ?_ ?_
        · have yn3 := yn2.new rfl 23 #[.int .u8 0, .int .u8 0, .int .u8 0, .int .u8 0, .int .u8 0, .int .u8 0, .int .u8 0, .int .u8 0, .int .u8 0, .int .u8 0, .int .u8 0, .int .u8 0, .int .u8 0, .int .u8 0, .int .u8 0, .int .u8 0]
          try simp only [Act.put, List.setIfInBounds_toArray, List.set_cons_zero, List.set_cons_succ]
          refine wpAnyH_ready (rs := [7]) (by kernel_rfl) (by simp) ?_
          refine br_store yn3 3 rfl rfl 23 (.tmp 5) _ rfl rfl rfl rfl (a16 (emb (kp 4) hA 64)) rfl (by kernel_rfl) rfl (by kernel_rfl) _ rfl (fun w' M' => Mem.init (l := [(w0.heap.size, 23, a16 bs), (wb.heap.size, 23, #[.int .u8 32, .int .u8 1, .int .u8 13, .int .u8 184, .int .u8 192, .int .u8 0, .int .u8 2, .int .u8 33, .int .u8 0, .int .u8 0, .int .u8 0, .int .u8 0, .int .u8 0, .int .u8 0, .int .u8 0, .int .u8 0, .int .u8 32, .int .u8 1, .int .u8 13, .int .u8 184, .int .u8 1, .int .u8 192, .int .u8 0, .int .u8 2, .int .u8 0, .int .u8 33, .int .u8 0, .int .u8 0, .int .u8 0, .int .u8 0, .int .u8 0, .int .u8 0, .int .u8 32, .int .u8 1, .int .u8 13, .int .u8 184, .int .u8 1, .int .u8 34, .int .u8 192, .int .u8 0, .int .u8 0, .int .u8 2, .int .u8 33, .int .u8 0, .int .u8 0, .int .u8 0, .int .u8 0, .int .u8 0, .int .u8 32, .int .u8 1, .int .u8 13, .int .u8 184, .int .u8 1, .int .u8 34, .int .u8 3, .int .u8 192, .int .u8 0, .int .u8 0, .int .u8 2, .int .u8 33, .int .u8 0, .int .u8 0, .int .u8 0, .int .u8 0, .int .u8 32, .int .u8 1, .int .u8 13, .int .u8 184, .int .u8 1, .int .u8 34, .int .u8 3, .int .u8 68, .int .u8 0, .int .u8 192, .int .u8 0, .int .u8 2, .int .u8 33, .int .u8 0, .int .u8 0, .int .u8 0]), (wr4.heap.size, 26, netC (kp 4) 64)]) M') (fun y4 yn4 => ?_) ?_
          · try simp only [Act.put, List.setIfInBounds_toArray, List.set_cons_zero, List.set_cons_succ]
            refine tk (i := 8) (v := ?_) rfl (some 6) rfl (by kernel_rfl) (by kernel_rfl) (by kernel_rfl) (fun _ _ _ h => h) (Or.inl ⟨by rfl, ?_⟩) (Mem.init (l := [(w0.heap.size, 23, a16 bs), (wb.heap.size, 23, #[.int .u8 32, .int .u8 1, .int .u8 13, .int .u8 184, .int .u8 192, .int .u8 0, .int .u8 2, .int .u8 33, .int .u8 0, .int .u8 0, .int .u8 0, .int .u8 0, .int .u8 0, .int .u8 0, .int .u8 0, .int .u8 0, .int .u8 32, .int .u8 1, .int .u8 13, .int .u8 184, .int .u8 1, .int .u8 192, .int .u8 0, .int .u8 2, .int .u8 0, .int .u8 33, .int .u8 0, .int .u8 0, .int .u8 0, .int .u8 0, .int .u8 0, .int .u8 0, .int .u8 32, .int .u8 1, .int .u8 13, .int .u8 184, .int .u8 1, .int .u8 34, .int .u8 192, .int .u8 0, .int .u8 0, .int .u8 2, .int .u8 33, .int .u8 0, .int .u8 0, .int .u8 0, .int .u8 0, .int .u8 0, .int .u8 32, .int .u8 1, .int .u8 13, .int .u8 184, .int .u8 1, .int .u8 34, .int .u8 3, .int .u8 192, .int .u8 0, .int .u8 0, .int .u8 2, .int .u8 33, .int .u8 0, .int .u8 0, .int .u8 0, .int .u8 0, .int .u8 32, .int .u8 1, .int .u8 13, .int .u8 184, .int .u8 1, .int .u8 34, .int .u8 3, .int .u8 68, .int .u8 0, .int .u8 192, .int .u8 0, .int .u8 2, .int .u8 33, .int .u8 0, .int .u8 0, .int .u8 0]), (wr4.heap.size, 26, netC (kp 4) 64)]) yn4) ?_
            rotate_left
            · intro w hS; go_simp; try with_reducible rfl
            try simp only [Act.put, List.setIfInBounds_toArray, List.set_cons_zero, List.set_cons_succ]
            refine wpAnyH_done (by kernel_rfl) ?_ _
            go_wp2_with fail
            go_meet
            case rel => exact ⟨_, rfl, rfl, yn4⟩
          exact AllReadyH.nil
        exact AllReadyH.nil
      refine br_alloc rfl rfl (some 5) rfl #[.int .u8 0, .int .u8 0, .int .u8 0, .int .u8 0, .int .u8 0, .int .u8 0, .int .u8 0, .int .u8 0, .int .u8 0, .int .u8 0, .int .u8 0, .int .u8 0, .int .u8 0, .int .u8 0, .int .u8 0, .int .u8 0] 23 (by kernel_rfl) (yn1.alloc _) ?_ ?_
      · have yn5 := yn1.new rfl 23 #[.int .u8 0, .int .u8 0, .int .u8 0, .int .u8 0, .int .u8 0, .int .u8 0, .int .u8 0, .int .u8 0, .int .u8 0, .int .u8 0, .int .u8 0, .int .u8 0, .int .u8 0, .int .u8 0, .int .u8 0, .int .u8 0]
        try simp only [Act.put, List.setIfInBounds_toArray, List.set_cons_zero, List.set_cons_succ]
        refine wpAnyH_ready (rs := [2]) (by kernel_rfl) (by simp) ?_
        refine br_call rfl rfl (some 34) rfl (c10_4 _) (by kernel_rfl) (fun w' hb => Mem.init (l := [(w0.heap.size, 23, a16 bs), (wb.heap.size, 23, #[.int .u8 32, .int .u8 1, .int .u8 13, .int .u8 184, .int .u8 192, .int .u8 0, .int .u8 2, .int .u8 33, .int .u8 0, .int .u8 0, .int .u8 0, .int .u8 0, .int .u8 0, .int .u8 0, .int .u8 0, .int .u8 0, .int .u8 32, .int .u8 1, .int .u8 13, .int .u8 184, .int .u8 1, .int .u8 192, .int .u8 0, .int .u8 2, .int .u8 0, .int .u8 33, .int .u8 0, .int .u8 0, .int .u8 0, .int .u8 0, .int .u8 0, .int .u8 0, .int .u8 32, .int .u8 1, .int .u8 13, .int .u8 184, .int .u8 1, .int .u8 34, .int .u8 192, .int .u8 0, .int .u8 0, .int .u8 2, .int .u8 33, .int .u8 0, .int .u8 0, .int .u8 0, .int .u8 0, .int .u8 0, .int .u8 32, .int .u8 1, .int .u8 13, .int .u8 184, .int .u8 1, .int .u8 34, .int .u8 3, .int .u8 192, .int .u8 0, .int .u8 0, .int .u8 2, .int .u8 33, .int .u8 0, .int .u8 0, .int .u8 0, .int .u8 0, .int .u8 32, .int .u8 1, .int .u8 13, .int .u8 184, .int .u8 1, .int .u8 34, .int .u8 3, .int .u8 68, .int .u8 0, .int .u8 192, .int .u8 0, .int .u8 2, .int .u8 33, .int .u8 0, .int .u8 0, .int .u8 0]), (wr4.heap.size, 26, netC (kp 4) 64)]) (yn5.call hb)) (fun y6 hb6 => ?_) ?_
        · have yn6 := yn5.call hb6
          clear hb6
          try simp only [Act.put, List.setIfInBounds_toArray, List.set_cons_zero, List.set_cons_succ]
          refine tk (i := 3) (v := ?_) rfl (some 31) rfl (by kernel_rfl) (by kernel_rfl) (by kernel_rfl) (fun _ _ _ h => h) (Or.inl ⟨by rfl, ?_⟩) (Mem.init (l := [(w0.heap.size, 23, a16 bs), (wb.heap.size, 23, #[.int .u8 32, .int .u8 1, .int .u8 13, .int .u8 184, .int .u8 192, .int .u8 0, .int .u8 2, .int .u8 33, .int .u8 0, .int .u8 0, .int .u8 0, .int .u8 0, .int .u8 0, .int .u8 0, .int .u8 0, .int .u8 0, .int .u8 32, .int .u8 1, .int .u8 13, .int .u8 184, .int .u8 1, .int .u8 192, .int .u8 0, .int .u8 2, .int .u8 0, .int .u8 33, .int .u8 0, .int .u8 0, .int .u8 0, .int .u8 0, .int .u8 0, .int .u8 0, .int .u8 32, .int .u8 1, .int .u8 13, .int .u8 184, .int .u8 1, .int .u8 34, .int .u8 192, .int .u8 0, .int .u8 0, .int .u8 2, .int .u8 33, .int .u8 0, .int .u8 0, .int .u8 0, .int .u8 0, .int .u8 0, .int .u8 32, .int .u8 1, .int .u8 13, .int .u8 184, .int .u8 1, .int .u8 34, .int .u8 3, .int .u8 192, .int .u8 0, .int .u8 0, .int .u8 2, .int .u8 33, .int .u8 0, .int .u8 0, .int .u8 0, .int .u8 0, .int .u8 32, .int .u8 1, .int .u8 13, .int .u8 184, .int .u8 1, .int .u8 34, .int .u8 3, .int .u8 68, .int .u8 0, .int .u8 192, .int .u8 0, .int .u8 2, .int .u8 33, .int .u8 0, .int .u8 0, .int .u8 0]), (wr4.heap.size, 26, netC (kp 4) 64)]) yn6) ?_
          rotate_left
          · intro w hS; go_simp; try with_reducible rfl
          try simp only [Act.put, List.setIfInBounds_toArray, List.set_cons_zero, List.set_cons_succ]
          refine tk (i := 4) (v := ?_) rfl (some 35) rfl (by kernel_rfl) (by kernel_rfl) (by kernel_rfl) (fun _ _ _ h => h) (Or.inl ⟨by rfl, ?_⟩) (Mem.init (l := [(w0.heap.size, 23, a16 bs), (wb.heap.size, 23, #[.int .u8 32, .int .u8 1, .int .u8 13, .int .u8 184, .int .u8 192, .int .u8 0, .int .u8 2, .int .u8 33, .int .u8 0, .int .u8 0, .int .u8 0, .int .u8 0, .int .u8 0, .int .u8 0, .int .u8 0, .int .u8 0, .int .u8 32, .int .u8 1, .int .u8 13, .int .u8 184, .int .u8 1, .int .u8 192, .int .u8 0, .int .u8 2, .int .u8 0, .int .u8 33, .int .u8 0, .int .u8 0, .int .u8 0, .int .u8 0, .int .u8 0, .int .u8 0, .int .u8 32, .int .u8 1, .int .u8 13, .int .u8 184, .int .u8 1, .int .u8 34, .int .u8 192, .int .u8 0, .int .u8 0, .int .u8 2, .int .u8 33, .int .u8 0, .int .u8 0, .int .u8 0, .int .u8 0, .int .u8 0, .int .u8 32, .int .u8 1, .int .u8 13, .int .u8 184, .int .u8 1, .int .u8 34, .int .u8 3, .int .u8 192, .int .u8 0, .int .u8 0, .int .u8 2, .int .u8 33, .int .u8 0, .int .u8 0, .int .u8 0, .int .u8 0, .int .u8 32, .int .u8 1, .int .u8 13, .int .u8 184, .int .u8 1, .int .u8 34, .int .u8 3, .int .u8 68, .int .u8 0, .int .u8 192, .int .u8 0, .int .u8 2, .int .u8 33, .int .u8 0, .int .u8 0, .int .u8 0]), (wr4.heap.size, 26, netC (kp 4) 64)]) yn6) ?_
          rotate_left
          · intro w hS; go_simp; try with_reducible rfl
          try simp only [Act.put, List.setIfInBounds_toArray, List.set_cons_zero, List.set_cons_succ]
          refine tk (i := 5) (v := ?_) rfl (some 36) rfl (by kernel_rfl) (by kernel_rfl) (by kernel_rfl) (fun _ _ _ h => h) (Or.inl ⟨by rfl, ?_⟩) (Mem.init (l := [(w0.heap.size, 23, a16 bs), (wb.heap.size, 23, #[.int .u8 32, .int .u8 1, .int .u8 13, .int .u8 184, .int .u8 192, .int .u8 0, .int .u8 2, .int .u8 33, .int .u8 0, .int .u8 0, .int .u8 0, .int .u8 0, .int .u8 0, .int .u8 0, .int .u8 0, .int .u8 0, .int .u8 32, .int .u8 1, .int .u8 13, .int .u8 184, .int .u8 1, .int .u8 192, .int .u8 0, .int .u8 2, .int .u8 0, .int .u8 33, .int .u8 0, .int .u8 0, .int .u8 0, .int .u8 0, .int .u8 0, .int .u8 0, .int .u8 32, .int .u8 1, .int .u8 13, .int .u8 184, .int .u8 1, .int .u8 34, .int .u8 192, .int .u8 0, .int .u8 0, .int .u8 2, .int .u8 33, .int .u8 0, .int .u8 0, .int .u8 0, .int .u8 0, .int .u8 0, .int .u8 32, .int .u8 1, .int .u8 13, .int .u8 184, .int .u8 1, .int .u8 34, .int .u8 3, .int .u8 192, .int .u8 0, .int .u8 0, .int .u8 2, .int .u8 33, .int .u8 0, .int .u8 0, .int .u8 0, .int .u8 0, .int .u8 32, .int .u8 1, .int .u8 13, .int .u8 184, .int .u8 1, .int .u8 34, .int .u8 3, .int .u8 68, .int .u8 0, .int .u8 192, .int .u8 0, .int .u8 2, .int .u8 33, .int .u8 0, .int .u8 0, .int .u8 0]), (wr4.heap.size, 26, netC (kp 4) 64)]) yn6) ?_
          rotate_left
          · intro w hS; go_simp; try with_reducible rfl
          try simp only [Act.put, List.setIfInBounds_toArray, List.set_cons_zero, List.set_cons_succ]
          refine wpAnyH_ready (rs := [7]) (by kernel_rfl) (by simp) ?_
          refine br_store yn6 3 rfl rfl 23 (.tmp 5) _ rfl rfl rfl rfl (a16 (emb (kp 4) hA 64)) rfl (by kernel_rfl) rfl (by kernel_rfl) _ rfl (fun w' M' => Mem.init (l := [(w0.heap.size, 23, a16 bs), (wb.heap.size, 23, #[.int .u8 32, .int .u8 1, .int .u8 13, .int .u8 184, .int .u8 192, .int .u8 0, .int .u8 2, .int .u8 33, .int .u8 0, .int .u8 0, .int .u8 0, .int .u8 0, .int .u8 0, .int .u8 0, .int .u8 0, .int .u8 0, .int .u8 32, .int .u8 1, .int .u8 13, .int .u8 184, .int .u8 1, .int .u8 192, .int .u8 0, .int .u8 2, .int .u8 0, .int .u8 33, .int .u8 0, .int .u8 0, .int .u8 0, .int .u8 0, .int .u8 0, .int .u8 0, .int .u8 32, .int .u8 1, .int .u8 13, .int .u8 184, .int .u8 1, .int .u8 34, .int .u8 192, .int .u8 0, .int .u8 0, .int .u8 2, .int .u8 33, .int .u8 0, .int .u8 0, .int .u8 0, .int .u8 0, .int .u8 0, .int .u8 32, .int .u8 1, .int .u8 13, .int .u8 184, .int .u8 1, .int .u8 34, .int .u8 3, .int .u8 192, .int .u8 0, .int .u8 0, .int .u8 2, .int .u8 33, .int .u8 0, .int .u8 0, .int .u8 0, .int .u8 0, .int .u8 32, .int .u8 1, .int .u8 13, .int .u8 184, .int .u8 1, .int .u8 34, .int .u8 3, .int .u8 68, .int .u8 0, .int .u8 192, .int .u8 0, .int .u8 2, .int .u8 33, .int .u8 0, .int .u8 0, .int .u8 0]), (wr4.heap.size, 26, netC (kp 4) 64)]) M') (fun y7 yn7 => ?_) ?_
          · try simp only [Act.put, List.setIfInBounds_toArray, List.set_cons_zero, List.set_cons_succ]
            refine tk (i := 8) (v := ?_) rfl (some 6) rfl (by kernel_rfl) (by kernel_rfl) (by kernel_rfl) (fun _ _ _ h => h) (Or.inl ⟨by rfl, ?_⟩) (Mem.init (l := [(w0.heap.size, 23, a16 bs), (wb.heap.size, 23, #[.int .u8 32, .int .u8 1, .int .u8 13, .int .u8 184, .int .u8 192, .int .u8 0, .int .u8 2, .int .u8 33, .int .u8 0, .int .u8 0, .int .u8 0, .int .u8 0, .int .u8 0, .int .u8 0, .int .u8 0, .int .u8 0, .int .u8 32, .int .u8 1, .int .u8 13, .int .u8 184, .int .u8 1, .int .u8 192, .int .u8 0, .int .u8 2, .int .u8 0, .int .u8 33, .int .u8 0, .int .u8 0, .int .u8 0, .int .u8 0, .int .u8 0, .int .u8 0, .int .u8 32, .int .u8 1, .int .u8 13, .int .u8 184, .int .u8 1, .int .u8 34, .int .u8 192, .int .u8 0, .int .u8 0, .int .u8 2, .int .u8 33, .int .u8 0, .int .u8 0, .int .u8 0, .int .u8 0, .int .u8 0, .int .u8 32, .int .u8 1, .int .u8 13, .int .u8 184, .int .u8 1, .int .u8 34, .int .u8 3, .int .u8 192, .int .u8 0, .int .u8 0, .int .u8 2, .int .u8 33, .int .u8 0, .int .u8 0, .int .u8 0, .int .u8 0, .int .u8 32, .int .u8 1, .int .u8 13, .int .u8 184, .int .u8 1, .int .u8 34, .int .u8 3, .int .u8 68, .int .u8 0, .int .u8 192, .int .u8 0, .int .u8 2, .int .u8 33, .int .u8 0, .int .u8 0, .int .u8 0]), (wr4.heap.size, 26, netC (kp 4) 64)]) yn7) ?_
            rotate_left
            · intro w hS; go_simp; try with_reducible rfl
            try simp only [Act.put, List.setIfInBounds_toArray, List.set_cons_zero, List.set_cons_succ]
            refine wpAnyH_done (by kernel_rfl) ?_ _
            go_wp2_with fail
            go_meet
            case rel => exact ⟨_, rfl, rfl, yn7⟩
          exact AllReadyH.nil
        exact AllReadyH.nil
      exact AllReadyH.nil
    refine br_alloc rfl rfl (some 5) rfl #[.int .u8 0, .int .u8 0, .int .u8 0, .int .u8 0, .int .u8 0, .int .u8 0, .int .u8 0, .int .u8 0, .int .u8 0, .int .u8 0, .int .u8 0, .int .u8 0, .int .u8 0, .int .u8 0, .int .u8 0, .int .u8 0] 23 (by kernel_rfl) (M5.alloc _) ?_ ?_
    · have yn8 := M5.new rfl 23 #[.int .u8 0, .int .u8 0, .int .u8 0, .int .u8 0, .int .u8 0, .int .u8 0, .int .u8 0, .int .u8 0, .int .u8 0, .int .u8 0, .int .u8 0, .int .u8 0, .int .u8 0, .int .u8 0, .int .u8 0, .int .u8 0]
      try simp only [Act.put, List.setIfInBounds_toArray, List.set_cons_zero, List.set_cons_succ]
      refine wpAnyH_ready (rs := [1]) (by kernel_rfl) (by simp) ?_
      refine br_call rfl rfl (some 33) rfl (host_any _) (by kernel_rfl) (fun w' hb => Mem.init (l := [(w0.heap.size, 23, a16 bs), (wb.heap.size, 23, #[.int .u8 32, .int .u8 1, .int .u8 13, .int .u8 184, .int .u8 192, .int .u8 0, .int .u8 2, .int .u8 33, .int .u8 0, .int .u8 0, .int .u8 0, .int .u8 0, .int .u8 0, .int .u8 0, .int .u8 0, .int .u8 0, .int .u8 32, .int .u8 1, .int .u8 13, .int .u8 184, .int .u8 1, .int .u8 192, .int .u8 0, .int .u8 2, .int .u8 0, .int .u8 33, .int .u8 0, .int .u8 0, .int .u8 0, .int .u8 0, .int .u8 0, .int .u8 0, .int .u8 32, .int .u8 1, .int .u8 13, .int .u8 184, .int .u8 1, .int .u8 34, .int .u8 192, .int .u8 0, .int .u8 0, .int .u8 2, .int .u8 33, .int .u8 0, .int .u8 0, .int .u8 0, .int .u8 0, .int .u8 0, .int .u8 32, .int .u8 1, .int .u8 13, .int .u8 184, .int .u8 1, .int .u8 34, .int .u8 3, .int .u8 192, .int .u8 0, .int .u8 0, .int .u8 2, .int .u8 33, .int .u8 0, .int .u8 0, .int .u8 0, .int .u8 0, .int .u8 32, .int .u8 1, .int .u8 13, .int .u8 184, .int .u8 1, .int .u8 34, .int .u8 3, .int .u8 68, .int .u8 0, .int .u8 192, .int .u8 0, .int .u8 2, .int .u8 33, .int .u8 0, .int .u8 0, .int .u8 0]), (wr4.heap.size, 26, netC (kp 4) 64)]) (yn8.call hb)) (fun y9 hb9 => ?_) ?_
      · have yn9 := yn8.call hb9
        clear hb9
        try simp only [Act.put, List.setIfInBounds_toArray, List.set_cons_zero, List.set_cons_succ]
        refine wpAnyH_ready (rs := [2]) (by kernel_rfl) (by simp) ?_
        refine br_call rfl rfl (some 34) rfl (c10_4 _) (by kernel_rfl) (fun w' hb => Mem.init (l := [(w0.heap.size, 23, a16 bs), (wb.heap.size, 23, #[.int .u8 32, .int .u8 1, .int .u8 13, .int .u8 184, .int .u8 192, .int .u8 0, .int .u8 2, .int .u8 33, .int .u8 0, .int .u8 0, .int .u8 0, .int .u8 0, .int .u8 0, .int .u8 0, .int .u8 0, .int .u8 0, .int .u8 32, .int .u8 1, .int .u8 13, .int .u8 184, .int .u8 1, .int .u8 192, .int .u8 0, .int .u8 2, .int .u8 0, .int .u8 33, .int .u8 0, .int .u8 0, .int .u8 0, .int .u8 0, .int .u8 0, .int .u8 0, .int .u8 32, .int .u8 1, .int .u8 13, .int .u8 184, .int .u8 1, .int .u8 34, .int .u8 192, .int .u8 0, .int .u8 0, .int .u8 2, .int .u8 33, .int .u8 0, .int .u8 0, .int .u8 0, .int .u8 0, .int .u8 0, .int .u8 32, .int .u8 1, .int .u8 13, .int .u8 184, .int .u8 1, .int .u8 34, .int .u8 3, .int .u8 192, .int .u8 0, .int .u8 0, .int .u8 2, .int .u8 33, .int .u8 0, .int .u8 0, .int .u8 0, .int .u8 0, .int .u8 32, .int .u8 1, .int .u8 13, .int .u8 184, .int .u8 1, .int .u8 34, .int .u8 3, .int .u8 68, .int .u8 0, .int .u8 192, .int .u8 0, .int .u8 2, .int .u8 33, .int .u8 0, .int .u8 0, .int .u8 0]), (wr4.heap.size, 26, netC (kp 4) 64)]) (yn9.call hb)) (fun y10 hb10 => ?_) ?_
        · have yn10 := yn9.call hb10
          clear hb10
          try simp only [Act.put, List.setIfInBounds_toArray, List.set_cons_zero, List.set_cons_succ]
          refine tk (i := 3) (v := ?_) rfl (some 31) rfl (by kernel_rfl) (by kernel_rfl) (by kernel_rfl) (fun _ _ _ h => h) (Or.inl ⟨by rfl, ?_⟩) (Mem.init (l := [(w0.heap.size, 23, a16 bs), (wb.heap.size, 23, #[.int .u8 32, .int .u8 1, .int .u8 13, .int .u8 184, .int .u8 192, .int .u8 0, .int .u8 2, .int .u8 33, .int .u8 0, .int .u8 0, .int .u8 0, .int .u8 0, .int .u8 0, .int .u8 0, .int .u8 0, .int .u8 0, .int .u8 32, .int .u8 1, .int .u8 13, .int .u8 184, .int .u8 1, .int .u8 192, .int .u8 0, .int .u8 2, .int .u8 0, .int .u8 33, .int .u8 0, .int .u8 0, .int .u8 0, .int .u8 0, .int .u8 0, .int .u8 0, .int .u8 32, .int .u8 1, .int .u8 13, .int .u8 184, .int .u8 1, .int .u8 34, .int .u8 192, .int .u8 0, .int .u8 0, .int .u8 2, .int .u8 33, .int .u8 0, .int .u8 0, .int .u8 0, .int .u8 0, .int .u8 0, .int .u8 32, .int .u8 1, .int .u8 13, .int .u8 184, .int .u8 1, .int .u8 34, .int .u8 3, .int .u8 192, .int .u8 0, .int .u8 0, .int .u8 2, .int .u8 33, .int .u8 0, .int .u8 0, .int .u8 0, .int .u8 0, .int .u8 32, .int .u8 1, .int .u8 13, .int .u8 184, .int .u8 1, .int .u8 34, .int .u8 3, .int .u8 68, .int .u8 0, .int .u8 192, .int .u8 0, .int .u8 2, .int .u8 33, .int .u8 0, .int .u8 0, .int .u8 0]), (wr4.heap.size, 26, netC (kp 4) 64)]) yn10) ?_
          rotate_left
          · intro w hS; go_simp; try with_reducible rfl
          try simp only [Act.put, List.setIfInBounds_toArray, List.set_cons_zero, List.set_cons_succ]
          refine tk (i := 4) (v := ?_) rfl (some 35) rfl (by kernel_rfl) (by kernel_rfl) (by kernel_rfl) (fun _ _ _ h => h) (Or.inl ⟨by rfl, ?_⟩) (Mem.init (l := [(w0.heap.size, 23, a16 bs), (wb.heap.size, 23, #[.int .u8 32, .int .u8 1, .int .u8 13, .int .u8 184, .int .u8 192, .int .u8 0, .int .u8 2, .int .u8 33, .int .u8 0, .int .u8 0, .int .u8 0, .int .u8 0, .int .u8 0, .int .u8 0, .int .u8 0, .int .u8 0, .int .u8 32, .int .u8 1, .int .u8 13, .int .u8 184, .int .u8 1, .int .u8 192, .int .u8 0, .int .u8 2, .int .u8 0, .int .u8 33, .int .u8 0, .int .u8 0, .int .u8 0, .int .u8 0, .int .u8 0, .int .u8 0, .int .u8 32, .int .u8 1, .int .u8 13, .int .u8 184, .int .u8 1, .int .u8 34, .int .u8 192, .int .u8 0, .int .u8 0, .int .u8 2, .int .u8 33, .int .u8 0, .int .u8 0, .int .u8 0, .int .u8 0, .int .u8 0, .int .u8 32, .int .u8 1, .int .u8 13, .int .u8 184, .int .u8 1, .int .u8 34, .int .u8 3, .int .u8 192, .int .u8 0, .int .u8 0, .int .u8 2, .int .u8 33, .int .u8 0, .int .u8 0, .int .u8 0, .int .u8 0, .int .u8 32, .int .u8 1, .int .u8 13, .int .u8 184, .int .u8 1, .int .u8 34, .int .u8 3, .int .u8 68, .int .u8 0, .int .u8 192, .int .u8 0, .int .u8 2, .int .u8 33, .int .u8 0, .int .u8 0, .int .u8 0]), (wr4.heap.size, 26, netC (kp 4) 64)]) yn10) ?_
          rotate_left
          · intro w hS; go_simp; try with_reducible rfl
          try simp only [Act.put, List.setIfInBounds_toArray, List.set_cons_zero, List.set_cons_succ]
          refine tk (i := 5) (v := ?_) rfl (some 36) rfl (by kernel_rfl) (by kernel_rfl) (by kernel_rfl) (fun _ _ _ h => h) (Or.inl ⟨by rfl, ?_⟩) (Mem.init (l := [(w0.heap.size, 23, a16 bs), (wb.heap.size, 23, #[.int .u8 32, .int .u8 1, .int .u8 13, .int .u8 184, .int .u8 192, .int .u8 0, .int .u8 2, .int .u8 33, .int .u8 0, .int .u8 0, .int .u8 0, .int .u8 0, .int .u8 0, .int .u8 0, .int .u8 0, .int .u8 0, .int .u8 32, .int .u8 1, .int .u8 13, .int .u8 184, .int .u8 1, .int .u8 192, .int .u8 0, .int .u8 2, .int .u8 0, .int .u8 33, .int .u8 0, .int .u8 0, .int .u8 0, .int .u8 0, .int .u8 0, .int .u8 0, .int .u8 32, .int .u8 1, .int .u8 13, .int .u8 184, .int .u8 1, .int .u8 34, .int .u8 192, .int .u8 0, .int .u8 0, .int .u8 2, .int .u8 33, .int .u8 0, .int .u8 0, .int .u8 0, .int .u8 0, .int .u8 0, .int .u8 32, .int .u8 1, .int .u8 13, .int .u8 184, .int .u8 1, .int .u8 34, .int .u8 3, .int .u8 192, .int .u8 0, .int .u8 0, .int .u8 2, .int .u8 33, .int .u8 0, .int .u8 0, .int .u8 0, .int .u8 0, .int .u8 32, .int .u8 1, .int .u8 13, .int .u8 184, .int .u8 1, .int .u8 34, .int .u8 3, .int .u8 68, .int .u8 0, .int .u8 192, .int .u8 0, .int .u8 2, .int .u8 33, .int .u8 0, .int .u8 0, .int .u8 0]), (wr4.heap.size, 26, netC (kp 4) 64)]) yn10) ?_
          rotate_left
          · intro w hS; go_simp; try with_reducible rfl
          try simp only [Act.put, List.setIfInBounds_toArray, List.set_cons_zero, List.set_cons_succ]
          refine wpAnyH_ready (rs := [7]) (by kernel_rfl) (by simp) ?_
          refine br_store yn10 3 rfl rfl 23 (.tmp 5) _ rfl rfl rfl rfl (a16 (emb (kp 4) hA 64)) rfl (by kernel_rfl) rfl (by kernel_rfl) _ rfl (fun w' M' => Mem.init (l := [(w0.heap.size, 23, a16 bs), (wb.heap.size, 23, #[.int .u8 32, .int .u8 1, .int .u8 13, .int .u8 184, .int .u8 192, .int .u8 0, .int .u8 2, .int .u8 33, .int .u8 0, .int .u8 0, .int .u8 0, .int .u8 0, .int .u8 0, .int .u8 0, .int .u8 0, .int .u8 0, .int .u8 32, .int .u8 1, .int .u8 13, .int .u8 184, .int .u8 1, .int .u8 192, .int .u8 0, .int .u8 2, .int .u8 0, .int .u8 33, .int .u8 0, .int .u8 0, .int .u8 0, .int .u8 0, .int .u8 0, .int .u8 0, .int .u8 32, .int .u8 1, .int .u8 13, .int .u8 184, .int .u8 1, .int .u8 34, .int .u8 192, .int .u8 0, .int .u8 0, .int .u8 2, .int .u8 33, .int .u8 0, .int .u8 0, .int .u8 0, .int .u8 0, .int .u8 0, .int .u8 32, .int .u8 1, .int .u8 13, .int .u8 184, .int .u8 1, .int .u8 34, .int .u8 3, .int .u8 192, .int .u8 0, .int .u8 0, .int .u8 2, .int .u8 33, .int .u8 0, .int .u8 0, .int .u8 0, .int .u8 0, .int .u8 32, .int .u8 1, .int .u8 13, .int .u8 184, .int .u8 1, .int .u8 34, .int .u8 3, .int .u8 68, .int .u8 0, .int .u8 192, .int .u8 0, .int .u8 2, .int .u8 33, .int .u8 0, .int .u8 0, .int .u8 0]), (wr4.heap.size, 26, netC (kp 4) 64)]) M') (fun y11 yn11 => ?_) ?_
          · try simp only [Act.put, List.setIfInBounds_toArray, List.set_cons_zero, List.set_cons_succ]
            refine tk (i := 8) (v := ?_) rfl (some 6) rfl (by kernel_rfl) (by kernel_rfl) (by kernel_rfl) (fun _ _ _ h => h) (Or.inl ⟨by rfl, ?_⟩) (Mem.init (l := [(w0.heap.size, 23, a16 bs), (wb.heap.size, 23, #[.int .u8 32, .int .u8 1, .int .u8 13, .int .u8 184, .int .u8 192, .int .u8 0, .int .u8 2, .int .u8 33, .int .u8 0, .int .u8 0, .int .u8 0, .int .u8 0, .int .u8 0, .int .u8 0, .int .u8 0, .int .u8 0, .int .u8 32, .int .u8 1, .int .u8 13, .int .u8 184, .int .u8 1, .int .u8 192, .int .u8 0, .int .u8 2, .int .u8 0, .int .u8 33, .int .u8 0, .int .u8 0, .int .u8 0, .int .u8 0, .int .u8 0, .int .u8 0, .int .u8 32, .int .u8 1, .int .u8 13, .int .u8 184, .int .u8 1, .int .u8 34, .int .u8 192, .int .u8 0, .int .u8 0, .int .u8 2, .int .u8 33, .int .u8 0, .int .u8 0, .int .u8 0, .int .u8 0, .int .u8 0, .int .u8 32, .int .u8 1, .int .u8 13, .int .u8 184, .int .u8 1, .int .u8 34, .int .u8 3, .int .u8 192, .int .u8 0, .int .u8 0, .int .u8 2, .int .u8 33, .int .u8 0, .int .u8 0, .int .u8 0, .int .u8 0, .int .u8 32, .int .u8 1, .int .u8 13, .int .u8 184, .int .u8 1, .int .u8 34, .int .u8 3, .int .u8 68, .int .u8 0, .int .u8 192, .int .u8 0, .int .u8 2, .int .u8 33, .int .u8 0, .int .u8 0, .int .u8 0]), (wr4.heap.size, 26, netC (kp 4) 64)]) yn11) ?_
            rotate_left
            · intro w hS; go_simp; try with_reducible rfl
            try simp only [Act.put, List.setIfInBounds_toArray, List.set_cons_zero, List.set_cons_succ]
            refine wpAnyH_done (by kernel_rfl) ?_ _
            go_wp2_with fail
            go_meet
            case rel => exact ⟨_, rfl, rfl, yn11⟩
          exact AllReadyH.nil
        exact AllReadyH.nil
      exact AllReadyH.nil
    exact AllReadyH.nil
  obtain ⟨g5_4, rfl, rfl, MZ4⟩ := hcut
  clear MC4
  go_upto_region 9 with fail
  refine hide_l MZ4 (fun wy4 MY4 => ?_)
  clear MZ4
  refine wp_region_held_drew (S := fun w' => Mem w w' _) (by kernel_rfl) MY4.drew (fun _ => ?_)
  have MX4 := MY4.drew
  clear MY4
  refine tk (i := 0) (v := ?_) rfl (some 37) rfl (by kernel_rfl) (by kernel_rfl) (by kernel_rfl) (fun _ _ _ h => h) (Or.inl ⟨by kernel_rfl, ?_⟩) MX4 ?_
  rotate_left
  · intro w hS; go_simp; (try simp only [IntKind.wrap_i64, Int.reduceAdd, Int.reduceSub, Int.reduceMul, Int.reduceMod, Int.reducePow, Int.reduceNeg]); try with_reducible rfl
  try simp only [Act.put, List.setIfInBounds_toArray, List.set_cons_zero, List.set_cons_succ]
  refine tk (i := 1) (v := ?_) rfl (some 38) rfl (by kernel_rfl) (by kernel_rfl) (by kernel_rfl) (fun _ _ _ h => h) (Or.inl ⟨by kernel_rfl, ?_⟩) MX4 ?_
  rotate_left
  · intro w hS; go_simp; (try simp only [IntKind.wrap_i64, Int.reduceAdd, Int.reduceSub, Int.reduceMul, Int.reduceMod, Int.reducePow, Int.reduceNeg]); try with_reducible rfl
  try simp only [Act.put, List.setIfInBounds_toArray, List.set_cons_zero, List.set_cons_succ]
  refine tk (i := 2) (v := ?_) rfl (some 39) rfl (by kernel_rfl) (by kernel_rfl) (by kernel_rfl) (fun _ _ _ h => h) (Or.inl ⟨by kernel_rfl, ?_⟩) MX4 ?_
  rotate_left
  · intro w hS; go_simp; (try simp only [IntKind.wrap_i64, Int.reduceAdd, Int.reduceSub, Int.reduceMul, Int.reduceMod, Int.reducePow, Int.reduceNeg]); try with_reducible rfl
  try simp only [Act.put, List.setIfInBounds_toArray, List.set_cons_zero, List.set_cons_succ]
  refine tk (i := 3) rfl (some 40) rfl (by kernel_rfl) (by kernel_rfl) (by kernel_rfl) (fun _ _ _ h => h) (yi_row 3 23 (.tmp 5) rfl (by kernel_rfl) rfl rfl Try.underlying23 rfl (by kernel_rfl)) MX4 ?_
  try simp only [Act.put, List.setIfInBounds_toArray, List.set_cons_zero, List.set_cons_succ]
  refine tk (i := 4) (v := ?_) rfl (some 41) rfl (by kernel_rfl) (by kernel_rfl) (by kernel_rfl) (fun _ _ _ h => h) (Or.inl ⟨by kernel_rfl, ?_⟩) MX4 ?_
  rotate_left
  · intro w hS; go_simp; (try simp only [IntKind.wrap_i64, Int.reduceAdd, Int.reduceSub, Int.reduceMul, Int.reduceMod, Int.reducePow, Int.reduceNeg]); try with_reducible rfl
  try simp only [Act.put, List.setIfInBounds_toArray, List.set_cons_zero, List.set_cons_succ]
  refine tk (i := 5) (v := ?_) rfl (some 42) rfl (by kernel_rfl) (by kernel_rfl) (by kernel_rfl) (fun _ _ _ h => h) (Or.inl ⟨by kernel_rfl, ?_⟩) MX4 ?_
  rotate_left
  · intro w hS; go_simp; (try simp only [IntKind.wrap_i64, Int.reduceAdd, Int.reduceSub, Int.reduceMul, Int.reduceMod, Int.reducePow, Int.reduceNeg]); try with_reducible rfl
  try simp only [Act.put, List.setIfInBounds_toArray, List.set_cons_zero, List.set_cons_succ]
  refine tk (i := 6) (v := ?_) rfl (some 43) rfl (by kernel_rfl) (by kernel_rfl) (by kernel_rfl) (fun _ _ _ h => h) (Or.inl ⟨by kernel_rfl, ?_⟩) MX4 ?_
  rotate_left
  · intro w hS; go_simp; (try simp only [IntKind.wrap_i64, Int.reduceAdd, Int.reduceSub, Int.reduceMul, Int.reduceMod, Int.reducePow, Int.reduceNeg]); try with_reducible rfl
  try simp only [Act.put, List.setIfInBounds_toArray, List.set_cons_zero, List.set_cons_succ]
  refine tk (i := 7) rfl (some 44) rfl (by kernel_rfl) (by kernel_rfl) (by kernel_rfl) (fun _ _ _ h => h) (yi_part 1 23 (.tmp 43) rfl (by kernel_rfl) rfl 64 rfl #[.int .u8 32, .int .u8 1, .int .u8 13, .int .u8 184, .int .u8 1, .int .u8 34, .int .u8 3, .int .u8 68, .int .u8 0, .int .u8 192, .int .u8 0, .int .u8 2, .int .u8 33, .int .u8 0, .int .u8 0, .int .u8 0] Try.underlying23 rfl (by kernel_rfl) (by kernel_rfl)) MX4 ?_
  try simp only [Act.put, List.setIfInBounds_toArray, List.set_cons_zero, List.set_cons_succ]
  refine tk (i := 8) (v := ?_) rfl (some 45) rfl (by kernel_rfl) (by kernel_rfl) (by kernel_rfl) (fun _ _ _ h => h) (Or.inl ⟨by kernel_rfl, ?_⟩) MX4 ?_
  rotate_left
  · intro w hS; go_simp; (try simp only [IntKind.wrap_i64, Int.reduceAdd, Int.reduceSub, Int.reduceMul, Int.reduceMod, Int.reducePow, Int.reduceNeg]); try with_reducible rfl
  try simp only [Act.put, List.setIfInBounds_toArray, List.set_cons_zero, List.set_cons_succ]
  refine tk (i := 9) (v := ?_) rfl (some 46) rfl (by kernel_rfl) (by kernel_rfl) (by kernel_rfl) (fun _ _ _ h => h) (Or.inl ⟨by kernel_rfl, ?_⟩) MX4 ?_
  rotate_left
  · intro w hS; go_simp; (try simp only [IntKind.wrap_i64, Int.reduceAdd, Int.reduceSub, Int.reduceMul, Int.reduceMod, Int.reducePow, Int.reduceNeg]); try with_reducible rfl
  try simp only [Act.put, List.setIfInBounds_toArray, List.set_cons_zero, List.set_cons_succ]
  refine wpAnyH_done (by kernel_rfl) ?_ _
  go_upto_region 5 with fail
  refine wp_region_lit ?_
  refine lv (by kernel_rfl) (some 18) rfl (v := ?_) ?_ ?_
  rotate_left
  · go_simp; (try simp only [IntKind.wrap_i64, Int.reduceAdd, Int.reduceSub, Int.reduceMul, Int.reduceMod, Int.reducePow, Int.reduceNeg]); try with_reducible rfl
  try simp only [Act.put, List.setIfInBounds_toArray, List.set_cons_zero, List.set_cons_succ]
  refine lv (by kernel_rfl) (some 19) rfl (v := ?_) ?_ ?_
  rotate_left
  · go_simp; (try simp only [IntKind.wrap_i64, Int.reduceAdd, Int.reduceSub, Int.reduceMul, Int.reduceMod, Int.reducePow, Int.reduceNeg]); try with_reducible rfl
  try simp only [Act.put, List.setIfInBounds_toArray, List.set_cons_zero, List.set_cons_succ]
  refine lv (by kernel_rfl) (some 3) rfl (v := ?_) ?_ ?_
  rotate_left
  · go_simp; (try simp only [IntKind.wrap_i64, Int.reduceAdd, Int.reduceSub, Int.reduceMul, Int.reduceMod, Int.reducePow, Int.reduceNeg]); try with_reducible rfl
  try simp only [Act.put, List.setIfInBounds_toArray, List.set_cons_zero, List.set_cons_succ]
  refine wpList_nil ?_
  go_wp2_with fail
  have ME4 : Mem w _ [(w0.heap.size, 23, a16 bs), (wb.heap.size, 23, #[.int .u8 32, .int .u8 1, .int .u8 13, .int .u8 184, .int .u8 192, .int .u8 0, .int .u8 2, .int .u8 33, .int .u8 0, .int .u8 0, .int .u8 0, .int .u8 0, .int .u8 0, .int .u8 0, .int .u8 0, .int .u8 0, .int .u8 32, .int .u8 1, .int .u8 13, .int .u8 184, .int .u8 1, .int .u8 192, .int .u8 0, .int .u8 2, .int .u8 0, .int .u8 33, .int .u8 0, .int .u8 0, .int .u8 0, .int .u8 0, .int .u8 0, .int .u8 0, .int .u8 32, .int .u8 1, .int .u8 13, .int .u8 184, .int .u8 1, .int .u8 34, .int .u8 192, .int .u8 0, .int .u8 0, .int .u8 2, .int .u8 33, .int .u8 0, .int .u8 0, .int .u8 0, .int .u8 0, .int .u8 0, .int .u8 32, .int .u8 1, .int .u8 13, .int .u8 184, .int .u8 1, .int .u8 34, .int .u8 3, .int .u8 192, .int .u8 0, .int .u8 0, .int .u8 2, .int .u8 33, .int .u8 0, .int .u8 0, .int .u8 0, .int .u8 0, .int .u8 32, .int .u8 1, .int .u8 13, .int .u8 184, .int .u8 1, .int .u8 34, .int .u8 3, .int .u8 68, .int .u8 0, .int .u8 192, .int .u8 0, .int .u8 2, .int .u8 33, .int .u8 0, .int .u8 0, .int .u8 0])] := Mem.init (r := [_, _]) MX4
  clear MX4
  rw [rounds_succ]
  refine hide_l ME4 (fun wr5 MR5 => ?_)
  clear ME4
  go_upto_region 4 with fail
  refine wp_region_lit ?_
  refine lv (by kernel_rfl) (some 16) rfl (v := ?_) ?_ ?_
  rotate_left
  · go_simp; (try simp only [IntKind.wrap_i64, Int.reduceAdd, Int.reduceSub, Int.reduceMul, Int.reduceMod, Int.reducePow, Int.reduceNeg]); try with_reducible rfl
  try simp only [Act.put, List.setIfInBounds_toArray, List.set_cons_zero, List.set_cons_succ]
  refine lv (by kernel_rfl) (some 17) rfl (v := ?_) ?_ ?_
  rotate_left
  · go_simp; (try simp only [IntKind.wrap_i64, Int.reduceAdd, Int.reduceSub, Int.reduceMul, Int.reduceMod, Int.reducePow, Int.reduceNeg]); try with_reducible rfl
  try simp only [Act.put, List.setIfInBounds_toArray, List.set_cons_zero, List.set_cons_succ]
  refine wpList_nil ?_
  go_upto_region 11 with fail
  go_cut [7, 8] (fun s t wz => ∃ g, s = .pointer (some ⟨g, 0, none⟩) ∧ t = .bool false ∧ Mem w wz [(w0.heap.size, 23, a16 bs), (wb.heap.size, 23, #[.int .u8 32, .int .u8 1, .int .u8 13, .int .u8 184, .int .u8 192, .int .u8 0, .int .u8 2, .int .u8 33, .int .u8 0, .int .u8 0, .int .u8 0, .int .u8 0, .int .u8 0, .int .u8 0, .int .u8 0, .int .u8 0, .int .u8 32, .int .u8 1, .int .u8 13, .int .u8 184, .int .u8 1, .int .u8 192, .int .u8 0, .int .u8 2, .int .u8 0, .int .u8 33, .int .u8 0, .int .u8 0, .int .u8 0, .int .u8 0, .int .u8 0, .int .u8 0, .int .u8 32, .int .u8 1, .int .u8 13, .int .u8 184, .int .u8 1, .int .u8 34, .int .u8 192, .int .u8 0, .int .u8 0, .int .u8 2, .int .u8 33, .int .u8 0, .int .u8 0, .int .u8 0, .int .u8 0, .int .u8 0, .int .u8 32, .int .u8 1, .int .u8 13, .int .u8 184, .int .u8 1, .int .u8 34, .int .u8 3, .int .u8 192, .int .u8 0, .int .u8 0, .int .u8 2, .int .u8 33, .int .u8 0, .int .u8 0, .int .u8 0, .int .u8 0, .int .u8 32, .int .u8 1, .int .u8 13, .int .u8 184, .int .u8 1, .int .u8 34, .int .u8 3, .int .u8 68, .int .u8 0, .int .u8 192, .int .u8 0, .int .u8 2, .int .u8 33, .int .u8 0, .int .u8 0, .int .u8 0]), (g, 31, a4 zero)])
  case first =>
    refine wp_region_held_drew (S := fun w' => Mem w w' [(w0.heap.size, 23, a16 bs), (wb.heap.size, 23, #[.int .u8 32, .int .u8 1, .int .u8 13, .int .u8 184, .int .u8 192, .int .u8 0, .int .u8 2, .int .u8 33, .int .u8 0, .int .u8 0, .int .u8 0, .int .u8 0, .int .u8 0, .int .u8 0, .int .u8 0, .int .u8 0, .int .u8 32, .int .u8 1, .int .u8 13, .int .u8 184, .int .u8 1, .int .u8 192, .int .u8 0, .int .u8 2, .int .u8 0, .int .u8 33, .int .u8 0, .int .u8 0, .int .u8 0, .int .u8 0, .int .u8 0, .int .u8 0, .int .u8 32, .int .u8 1, .int .u8 13, .int .u8 184, .int .u8 1, .int .u8 34, .int .u8 192, .int .u8 0, .int .u8 0, .int .u8 2, .int .u8 33, .int .u8 0, .int .u8 0, .int .u8 0, .int .u8 0, .int .u8 0, .int .u8 32, .int .u8 1, .int .u8 13, .int .u8 184, .int .u8 1, .int .u8 34, .int .u8 3, .int .u8 192, .int .u8 0, .int .u8 0, .int .u8 2, .int .u8 33, .int .u8 0, .int .u8 0, .int .u8 0, .int .u8 0, .int .u8 32, .int .u8 1, .int .u8 13, .int .u8 184, .int .u8 1, .int .u8 34, .int .u8 3, .int .u8 68, .int .u8 0, .int .u8 192, .int .u8 0, .int .u8 2, .int .u8 33, .int .u8 0, .int .u8 0, .int .u8 0])]) (by kernel_rfl) MR5.drew (fun M5 => ?_)
    refine tk (i := 1) rfl (some 49) rfl (by kernel_rfl) (by kernel_rfl) (by kernel_rfl) (fun _ _ _ h => h) (yi_row 0 23 (.tmp 1) rfl rfl rfl rfl Try.underlying23 rfl (by kernel_rfl)) M5 ?_
    try simp only [Act.put, List.setIfInBounds_toArray, List.set_cons_zero, List.set_cons_succ]
    refine wpAnyH_ready (rs := [0, 6]) (by kernel_rfl) (by simp) ?_
    refine br_call rfl rfl (some 48) rfl (well_any _) (by kernel_rfl) (fun w' hb => M5.call hb) (fun y1 hb1 => ?_) ?_
    · have yn1 := M5.call hb1
      clear hb1
      try simp only [Act.put, List.setIfInBounds_toArray, List.set_cons_zero, List.set_cons_succ]
      refine wpAnyH_ready (rs := [2, 6]) (by kernel_rfl) (by simp) ?_
      refine br_call rfl rfl (some 50) rfl (c12 _) (by kernel_rfl) (fun w' hb => yn1.call hb) (fun y2 hb2 => ?_) ?_
      · have yn2 := yn1.call hb2
        clear hb2
        try simp only [Act.put, List.setIfInBounds_toArray, List.set_cons_zero, List.set_cons_succ]
        refine tk (i := 3) (v := ?_) rfl (some 47) rfl (by kernel_rfl) (by kernel_rfl) (by kernel_rfl) (fun _ _ _ h => h) (Or.inl ⟨by rfl, ?_⟩) yn2 ?_
        rotate_left
        · intro w hS; go_simp; try with_reducible rfl
        try simp only [Act.put, List.setIfInBounds_toArray, List.set_cons_zero, List.set_cons_succ]
        refine tk (i := 4) (v := ?_) rfl (some 51) rfl (by kernel_rfl) (by kernel_rfl) (by kernel_rfl) (fun _ _ _ h => h) (Or.inl ⟨by rfl, ?_⟩) yn2 ?_
        rotate_left
        · intro w hS; go_simp; try with_reducible rfl
        try simp only [Act.put, List.setIfInBounds_toArray, List.set_cons_zero, List.set_cons_succ]
        refine tk (i := 5) (v := ?_) rfl (some 52) rfl (by kernel_rfl) (by kernel_rfl) (by kernel_rfl) (fun _ _ _ h => h) (Or.inl ⟨by rfl, ?_⟩) yn2 ?_
        rotate_left
        · intro w hS; go_simp; try with_reducible rfl
        try simp only [Act.put, List.setIfInBounds_toArray, List.set_cons_zero, List.set_cons_succ]
        refine wpAnyH_ready (rs := [6]) (by kernel_rfl) (by simp) ?_
        refine br_alloc rfl rfl (some 7) rfl #[.int .u8 0, .int .u8 0, .int .u8 0, .int .u8 0] 31 (by kernel_rfl) (yn2.alloc _) ?_ ?_
        · have yn3 := yn2.new rfl 31 #[.int .u8 0, .int .u8 0, .int .u8 0, .int .u8 0]
          try simp only [Act.put, List.setIfInBounds_toArray, List.set_cons_zero, List.set_cons_succ]
          refine wpAnyH_ready (rs := [7]) (by kernel_rfl) (by simp) ?_
          refine br_store yn3 2 rfl rfl 31 (.tmp 7) _ rfl rfl rfl rfl (a4 zero) rfl (by kernel_rfl) rfl (by kernel_rfl) _ rfl (fun w' M' => Mem.init (l := [(w0.heap.size, 23, a16 bs), (wb.heap.size, 23, #[.int .u8 32, .int .u8 1, .int .u8 13, .int .u8 184, .int .u8 192, .int .u8 0, .int .u8 2, .int .u8 33, .int .u8 0, .int .u8 0, .int .u8 0, .int .u8 0, .int .u8 0, .int .u8 0, .int .u8 0, .int .u8 0, .int .u8 32, .int .u8 1, .int .u8 13, .int .u8 184, .int .u8 1, .int .u8 192, .int .u8 0, .int .u8 2, .int .u8 0, .int .u8 33, .int .u8 0, .int .u8 0, .int .u8 0, .int .u8 0, .int .u8 0, .int .u8 0, .int .u8 32, .int .u8 1, .int .u8 13, .int .u8 184, .int .u8 1, .int .u8 34, .int .u8 192, .int .u8 0, .int .u8 0, .int .u8 2, .int .u8 33, .int .u8 0, .int .u8 0, .int .u8 0, .int .u8 0, .int .u8 0, .int .u8 32, .int .u8 1, .int .u8 13, .int .u8 184, .int .u8 1, .int .u8 34, .int .u8 3, .int .u8 192, .int .u8 0, .int .u8 0, .int .u8 2, .int .u8 33, .int .u8 0, .int .u8 0, .int .u8 0, .int .u8 0, .int .u8 32, .int .u8 1, .int .u8 13, .int .u8 184, .int .u8 1, .int .u8 34, .int .u8 3, .int .u8 68, .int .u8 0, .int .u8 192, .int .u8 0, .int .u8 2, .int .u8 33, .int .u8 0, .int .u8 0, .int .u8 0])]) M') (fun y4 yn4 => ?_) ?_
          · try simp only [Act.put, List.setIfInBounds_toArray, List.set_cons_zero, List.set_cons_succ]
            refine tk (i := 8) (v := ?_) rfl (some 8) rfl (by kernel_rfl) (by kernel_rfl) (by kernel_rfl) (fun _ _ _ h => h) (Or.inl ⟨by rfl, ?_⟩) (Mem.init (l := [(w0.heap.size, 23, a16 bs), (wb.heap.size, 23, #[.int .u8 32, .int .u8 1, .int .u8 13, .int .u8 184, .int .u8 192, .int .u8 0, .int .u8 2, .int .u8 33, .int .u8 0, .int .u8 0, .int .u8 0, .int .u8 0, .int .u8 0, .int .u8 0, .int .u8 0, .int .u8 0, .int .u8 32, .int .u8 1, .int .u8 13, .int .u8 184, .int .u8 1, .int .u8 192, .int .u8 0, .int .u8 2, .int .u8 0, .int .u8 33, .int .u8 0, .int .u8 0, .int .u8 0, .int .u8 0, .int .u8 0, .int .u8 0, .int .u8 32, .int .u8 1, .int .u8 13, .int .u8 184, .int .u8 1, .int .u8 34, .int .u8 192, .int .u8 0, .int .u8 0, .int .u8 2, .int .u8 33, .int .u8 0, .int .u8 0, .int .u8 0, .int .u8 0, .int .u8 0, .int .u8 32, .int .u8 1, .int .u8 13, .int .u8 184, .int .u8 1, .int .u8 34, .int .u8 3, .int .u8 192, .int .u8 0, .int .u8 0, .int .u8 2, .int .u8 33, .int .u8 0, .int .u8 0, .int .u8 0, .int .u8 0, .int .u8 32, .int .u8 1, .int .u8 13, .int .u8 184, .int .u8 1, .int .u8 34, .int .u8 3, .int .u8 68, .int .u8 0, .int .u8 192, .int .u8 0, .int .u8 2, .int .u8 33, .int .u8 0, .int .u8 0, .int .u8 0])]) yn4) ?_
            rotate_left
            · intro w hS; go_simp; try with_reducible rfl
            try simp only [Act.put, List.setIfInBounds_toArray, List.set_cons_zero, List.set_cons_succ]
            refine wpAnyH_done (by kernel_rfl) ?_ _
            go_wp2_with fail
            go_meet
            case rel => exact ⟨_, rfl, rfl, yn4⟩
          exact AllReadyH.nil
        exact AllReadyH.nil
      refine br_alloc rfl rfl (some 7) rfl #[.int .u8 0, .int .u8 0, .int .u8 0, .int .u8 0] 31 (by kernel_rfl) (yn1.alloc _) ?_ ?_
      · have yn5 := yn1.new rfl 31 #[.int .u8 0, .int .u8 0, .int .u8 0, .int .u8 0]
        try simp only [Act.put, List.setIfInBounds_toArray, List.set_cons_zero, List.set_cons_succ]
        refine wpAnyH_ready (rs := [2]) (by kernel_rfl) (by simp) ?_
        refine br_call rfl rfl (some 50) rfl (c12 _) (by kernel_rfl) (fun w' hb => Mem.init (l := [(w0.heap.size, 23, a16 bs), (wb.heap.size, 23, #[.int .u8 32, .int .u8 1, .int .u8 13, .int .u8 184, .int .u8 192, .int .u8 0, .int .u8 2, .int .u8 33, .int .u8 0, .int .u8 0, .int .u8 0, .int .u8 0, .int .u8 0, .int .u8 0, .int .u8 0, .int .u8 0, .int .u8 32, .int .u8 1, .int .u8 13, .int .u8 184, .int .u8 1, .int .u8 192, .int .u8 0, .int .u8 2, .int .u8 0, .int .u8 33, .int .u8 0, .int .u8 0, .int .u8 0, .int .u8 0, .int .u8 0, .int .u8 0, .int .u8 32, .int .u8 1, .int .u8 13, .int .u8 184, .int .u8 1, .int .u8 34, .int .u8 192, .int .u8 0, .int .u8 0, .int .u8 2, .int .u8 33, .int .u8 0, .int .u8 0, .int .u8 0, .int .u8 0, .int .u8 0, .int .u8 32, .int .u8 1, .int .u8 13, .int .u8 184, .int .u8 1, .int .u8 34, .int .u8 3, .int .u8 192, .int .u8 0, .int .u8 0, .int .u8 2, .int .u8 33, .int .u8 0, .int .u8 0, .int .u8 0, .int .u8 0, .int .u8 32, .int .u8 1, .int .u8 13, .int .u8 184, .int .u8 1, .int .u8 34, .int .u8 3, .int .u8 68, .int .u8 0, .int .u8 192, .int .u8 0, .int .u8 2, .int .u8 33, .int .u8 0, .int .u8 0, .int .u8 0])]) (yn5.call hb)) (fun y6 hb6 => ?_) ?_
        · have yn6 := yn5.call hb6
          clear hb6
          try simp only [Act.put, List.setIfInBounds_toArray, List.set_cons_zero, List.set_cons_succ]
          refine tk (i := 3) (v := ?_) rfl (some 47) rfl (by kernel_rfl) (by kernel_rfl) (by kernel_rfl) (fun _ _ _ h => h) (Or.inl ⟨by rfl, ?_⟩) (Mem.init (l := [(w0.heap.size, 23, a16 bs), (wb.heap.size, 23, #[.int .u8 32, .int .u8 1, .int .u8 13, .int .u8 184, .int .u8 192, .int .u8 0, .int .u8 2, .int .u8 33, .int .u8 0, .int .u8 0, .int .u8 0, .int .u8 0, .int .u8 0, .int .u8 0, .int .u8 0, .int .u8 0, .int .u8 32, .int .u8 1, .int .u8 13, .int .u8 184, .int .u8 1, .int .u8 192, .int .u8 0, .int .u8 2, .int .u8 0, .int .u8 33, .int .u8 0, .int .u8 0, .int .u8 0, .int .u8 0, .int .u8 0, .int .u8 0, .int .u8 32, .int .u8 1, .int .u8 13, .int .u8 184, .int .u8 1, .int .u8 34, .int .u8 192, .int .u8 0, .int .u8 0, .int .u8 2, .int .u8 33, .int .u8 0, .int .u8 0, .int .u8 0, .int .u8 0, .int .u8 0, .int .u8 32, .int .u8 1, .int .u8 13, .int .u8 184, .int .u8 1, .int .u8 34, .int .u8 3, .int .u8 192, .int .u8 0, .int .u8 0, .int .u8 2, .int .u8 33, .int .u8 0, .int .u8 0, .int .u8 0, .int .u8 0, .int .u8 32, .int .u8 1, .int .u8 13, .int .u8 184, .int .u8 1, .int .u8 34, .int .u8 3, .int .u8 68, .int .u8 0, .int .u8 192, .int .u8 0, .int .u8 2, .int .u8 33, .int .u8 0, .int .u8 0, .int .u8 0])]) yn6) ?_
          rotate_left
          · intro w hS; go_simp; try with_reducible rfl
          try simp only [Act.put, List.setIfInBounds_toArray, List.set_cons_zero, List.set_cons_succ]
          refine tk (i := 4) (v := ?_) rfl (some 51) rfl (by kernel_rfl) (by kernel_rfl) (by kernel_rfl) (fun _ _ _ h => h) (Or.inl ⟨by rfl, ?_⟩) (Mem.init (l := [(w0.heap.size, 23, a16 bs), (wb.heap.size, 23, #[.int .u8 32, .int .u8 1, .int .u8 13, .int .u8 184, .int .u8 192, .int .u8 0, .int .u8 2, .int .u8 33, .int .u8 0, .int .u8 0, .int .u8 0, .int .u8 0, .int .u8 0, .int .u8 0, .int .u8 0, .int .u8 0, .int .u8 32, .int .u8 1, .int .u8 13, .int .u8 184, .int .u8 1, .int .u8 192, .int .u8 0, .int .u8 2, .int .u8 0, .int .u8 33, .int .u8 0, .int .u8 0, .int .u8 0, .int .u8 0, .int .u8 0, .int .u8 0, .int .u8 32, .int .u8 1, .int .u8 13, .int .u8 184, .int .u8 1, .int .u8 34, .int .u8 192, .int .u8 0, .int .u8 0, .int .u8 2, .int .u8 33, .int .u8 0, .int .u8 0, .int .u8 0, .int .u8 0, .int .u8 0, .int .u8 32, .int .u8 1, .int .u8 13, .int .u8 184, .int .u8 1, .int .u8 34, .int .u8 3, .int .u8 192, .int .u8 0, .int .u8 0, .int .u8 2, .int .u8 33, .int .u8 0, .int .u8 0, .int .u8 0, .int .u8 0, .int .u8 32, .int .u8 1, .int .u8 13, .int .u8 184, .int .u8 1, .int .u8 34, .int .u8 3, .int .u8 68, .int .u8 0, .int .u8 192, .int .u8 0, .int .u8 2, .int .u8 33, .int .u8 0, .int .u8 0, .int .u8 0])]) yn6) ?_
          rotate_left
          · intro w hS; go_simp; try with_reducible rfl
          try simp only [Act.put, List.setIfInBounds_toArray, List.set_cons_zero, List.set_cons_succ]
          refine tk (i := 5) (v := ?_) rfl (some 52) rfl (by kernel_rfl) (by kernel_rfl) (by kernel_rfl) (fun _ _ _ h => h) (Or.inl ⟨by rfl, ?_⟩) (Mem.init (l := [(w0.heap.size, 23, a16 bs), (wb.heap.size, 23, #[.int .u8 32, .int .u8 1, .int .u8 13, .int .u8 184, .int .u8 192, .int .u8 0, .int .u8 2, .int .u8 33, .int .u8 0, .int .u8 0, .int .u8 0, .int .u8 0, .int .u8 0, .int .u8 0, .int .u8 0, .int .u8 0, .int .u8 32, .int .u8 1, .int .u8 13, .int .u8 184, .int .u8 1, .int .u8 192, .int .u8 0, .int .u8 2, .int .u8 0, .int .u8 33, .int .u8 0, .int .u8 0, .int .u8 0, .int .u8 0, .int .u8 0, .int .u8 0, .int .u8 32, .int .u8 1, .int .u8 13, .int .u8 184, .int .u8 1, .int .u8 34, .int .u8 192, .int .u8 0, .int .u8 0, .int .u8 2, .int .u8 33, .int .u8 0, .int .u8 0, .int .u8 0, .int .u8 0, .int .u8 0, .int .u8 32, .int .u8 1, .int .u8 13, .int .u8 184, .int .u8 1, .int .u8 34, .int .u8 3, .int .u8 192, .int .u8 0, .int .u8 0, .int .u8 2, .int .u8 33, .int .u8 0, .int .u8 0, .int .u8 0, .int .u8 0, .int .u8 32, .int .u8 1, .int .u8 13, .int .u8 184, .int .u8 1, .int .u8 34, .int .u8 3, .int .u8 68, .int .u8 0, .int .u8 192, .int .u8 0, .int .u8 2, .int .u8 33, .int .u8 0, .int .u8 0, .int .u8 0])]) yn6) ?_
          rotate_left
          · intro w hS; go_simp; try with_reducible rfl
          try simp only [Act.put, List.setIfInBounds_toArray, List.set_cons_zero, List.set_cons_succ]
          refine wpAnyH_ready (rs := [7]) (by kernel_rfl) (by simp) ?_
          refine br_store yn6 2 rfl rfl 31 (.tmp 7) _ rfl rfl rfl rfl (a4 zero) rfl (by kernel_rfl) rfl (by kernel_rfl) _ rfl (fun w' M' => Mem.init (l := [(w0.heap.size, 23, a16 bs), (wb.heap.size, 23, #[.int .u8 32, .int .u8 1, .int .u8 13, .int .u8 184, .int .u8 192, .int .u8 0, .int .u8 2, .int .u8 33, .int .u8 0, .int .u8 0, .int .u8 0, .int .u8 0, .int .u8 0, .int .u8 0, .int .u8 0, .int .u8 0, .int .u8 32, .int .u8 1, .int .u8 13, .int .u8 184, .int .u8 1, .int .u8 192, .int .u8 0, .int .u8 2, .int .u8 0, .int .u8 33, .int .u8 0, .int .u8 0, .int .u8 0, .int .u8 0, .int .u8 0, .int .u8 0, .int .u8 32, .int .u8 1, .int .u8 13, .int .u8 184, .int .u8 1, .int .u8 34, .int .u8 192, .int .u8 0, .int .u8 0, .int .u8 2, .int .u8 33, .int .u8 0, .int .u8 0, .int .u8 0, .int .u8 0, .int .u8 0, .int .u8 32, .int .u8 1, .int .u8 13, .int .u8 184, .int .u8 1, .int .u8 34, .int .u8 3, .int .u8 192, .int .u8 0, .int .u8 0, .int .u8 2, .int .u8 33, .int .u8 0, .int .u8 0, .int .u8 0, .int .u8 0, .int .u8 32, .int .u8 1, .int .u8 13, .int .u8 184, .int .u8 1, .int .u8 34, .int .u8 3, .int .u8 68, .int .u8 0, .int .u8 192, .int .u8 0, .int .u8 2, .int .u8 33, .int .u8 0, .int .u8 0, .int .u8 0])]) M') (fun y7 yn7 => ?_) ?_
          · try simp only [Act.put, List.setIfInBounds_toArray, List.set_cons_zero, List.set_cons_succ]
            refine tk (i := 8) (v := ?_) rfl (some 8) rfl (by kernel_rfl) (by kernel_rfl) (by kernel_rfl) (fun _ _ _ h => h) (Or.inl ⟨by rfl, ?_⟩) (Mem.init (l := [(w0.heap.size, 23, a16 bs), (wb.heap.size, 23, #[.int .u8 32, .int .u8 1, .int .u8 13, .int .u8 184, .int .u8 192, .int .u8 0, .int .u8 2, .int .u8 33, .int .u8 0, .int .u8 0, .int .u8 0, .int .u8 0, .int .u8 0, .int .u8 0, .int .u8 0, .int .u8 0, .int .u8 32, .int .u8 1, .int .u8 13, .int .u8 184, .int .u8 1, .int .u8 192, .int .u8 0, .int .u8 2, .int .u8 0, .int .u8 33, .int .u8 0, .int .u8 0, .int .u8 0, .int .u8 0, .int .u8 0, .int .u8 0, .int .u8 32, .int .u8 1, .int .u8 13, .int .u8 184, .int .u8 1, .int .u8 34, .int .u8 192, .int .u8 0, .int .u8 0, .int .u8 2, .int .u8 33, .int .u8 0, .int .u8 0, .int .u8 0, .int .u8 0, .int .u8 0, .int .u8 32, .int .u8 1, .int .u8 13, .int .u8 184, .int .u8 1, .int .u8 34, .int .u8 3, .int .u8 192, .int .u8 0, .int .u8 0, .int .u8 2, .int .u8 33, .int .u8 0, .int .u8 0, .int .u8 0, .int .u8 0, .int .u8 32, .int .u8 1, .int .u8 13, .int .u8 184, .int .u8 1, .int .u8 34, .int .u8 3, .int .u8 68, .int .u8 0, .int .u8 192, .int .u8 0, .int .u8 2, .int .u8 33, .int .u8 0, .int .u8 0, .int .u8 0])]) yn7) ?_
            rotate_left
            · intro w hS; go_simp; try with_reducible rfl
            try simp only [Act.put, List.setIfInBounds_toArray, List.set_cons_zero, List.set_cons_succ]
            refine wpAnyH_done (by kernel_rfl) ?_ _
            go_wp2_with fail
            go_meet
            case rel => exact ⟨_, rfl, rfl, yn7⟩
          exact AllReadyH.nil
        exact AllReadyH.nil
      exact AllReadyH.nil
    refine br_alloc rfl rfl (some 7) rfl #[.int .u8 0, .int .u8 0, .int .u8 0, .int .u8 0] 31 (by kernel_rfl) (M5.alloc _) ?_ ?_
    · have yn8 := M5.new rfl 31 #[.int .u8 0, .int .u8 0, .int .u8 0, .int .u8 0]
      try simp only [Act.put, List.setIfInBounds_toArray, List.set_cons_zero, List.set_cons_succ]
      refine wpAnyH_ready (rs := [0]) (by kernel_rfl) (by simp) ?_
      refine br_call rfl rfl (some 48) rfl (well_any _) (by kernel_rfl) (fun w' hb => Mem.init (l := [(w0.heap.size, 23, a16 bs), (wb.heap.size, 23, #[.int .u8 32, .int .u8 1, .int .u8 13, .int .u8 184, .int .u8 192, .int .u8 0, .int .u8 2, .int .u8 33, .int .u8 0, .int .u8 0, .int .u8 0, .int .u8 0, .int .u8 0, .int .u8 0, .int .u8 0, .int .u8 0, .int .u8 32, .int .u8 1, .int .u8 13, .int .u8 184, .int .u8 1, .int .u8 192, .int .u8 0, .int .u8 2, .int .u8 0, .int .u8 33, .int .u8 0, .int .u8 0, .int .u8 0, .int .u8 0, .int .u8 0, .int .u8 0, .int .u8 32, .int .u8 1, .int .u8 13, .int .u8 184, .int .u8 1, .int .u8 34, .int .u8 192, .int .u8 0, .int .u8 0, .int .u8 2, .int .u8 33, .int .u8 0, .int .u8 0, .int .u8 0, .int .u8 0, .int .u8 0, .int .u8 32, .int .u8 1, .int .u8 13, .int .u8 184, .int .u8 1, .int .u8 34, .int .u8 3, .int .u8 192, .int .u8 0, .int .u8 0, .int .u8 2, .int .u8 33, .int .u8 0, .int .u8 0, .int .u8 0, .int .u8 0, .int .u8 32, .int .u8 1, .int .u8 13, .int .u8 184, .int .u8 1, .int .u8 34, .int .u8 3, .int .u8 68, .int .u8 0, .int .u8 192, .int .u8 0, .int .u8 2, .int .u8 33, .int .u8 0, .int .u8 0, .int .u8 0])]) (yn8.call hb)) (fun y9 hb9 => ?_) ?_
      · have yn9 := yn8.call hb9
        clear hb9
        try simp only [Act.put, List.setIfInBounds_toArray, List.set_cons_zero, List.set_cons_succ]
        refine wpAnyH_ready (rs := [2]) (by kernel_rfl) (by simp) ?_
        refine br_call rfl rfl (some 50) rfl (c12 _) (by kernel_rfl) (fun w' hb => Mem.init (l := [(w0.heap.size, 23, a16 bs), (wb.heap.size, 23, #[.int .u8 32, .int .u8 1, .int .u8 13, .int .u8 184, .int .u8 192, .int .u8 0, .int .u8 2, .int .u8 33, .int .u8 0, .int .u8 0, .int .u8 0, .int .u8 0, .int .u8 0, .int .u8 0, .int .u8 0, .int .u8 0, .int .u8 32, .int .u8 1, .int .u8 13, .int .u8 184, .int .u8 1, .int .u8 192, .int .u8 0, .int .u8 2, .int .u8 0, .int .u8 33, .int .u8 0, .int .u8 0, .int .u8 0, .int .u8 0, .int .u8 0, .int .u8 0, .int .u8 32, .int .u8 1, .int .u8 13, .int .u8 184, .int .u8 1, .int .u8 34, .int .u8 192, .int .u8 0, .int .u8 0, .int .u8 2, .int .u8 33, .int .u8 0, .int .u8 0, .int .u8 0, .int .u8 0, .int .u8 0, .int .u8 32, .int .u8 1, .int .u8 13, .int .u8 184, .int .u8 1, .int .u8 34, .int .u8 3, .int .u8 192, .int .u8 0, .int .u8 0, .int .u8 2, .int .u8 33, .int .u8 0, .int .u8 0, .int .u8 0, .int .u8 0, .int .u8 32, .int .u8 1, .int .u8 13, .int .u8 184, .int .u8 1, .int .u8 34, .int .u8 3, .int .u8 68, .int .u8 0, .int .u8 192, .int .u8 0, .int .u8 2, .int .u8 33, .int .u8 0, .int .u8 0, .int .u8 0])]) (yn9.call hb)) (fun y10 hb10 => ?_) ?_
        · have yn10 := yn9.call hb10
          clear hb10
          try simp only [Act.put, List.setIfInBounds_toArray, List.set_cons_zero, List.set_cons_succ]
          refine tk (i := 3) (v := ?_) rfl (some 47) rfl (by kernel_rfl) (by kernel_rfl) (by kernel_rfl) (fun _ _ _ h => h) (Or.inl ⟨by rfl, ?_⟩) (Mem.init (l := [(w0.heap.size, 23, a16 bs), (wb.heap.size, 23, #[.int .u8 32, .int .u8 1, .int .u8 13, .int .u8 184, .int .u8 192, .int .u8 0, .int .u8 2, .int .u8 33, .int .u8 0, .int .u8 0, .int .u8 0, .int .u8 0, .int .u8 0, .int .u8 0, .int .u8 0, .int .u8 0, .int .u8 32, .int .u8 1, .int .u8 13, .int .u8 184, .int .u8 1, .int .u8 192, .int .u8 0, .int .u8 2, .int .u8 0, .int .u8 33, .int .u8 0, .int .u8 0, .int .u8 0, .int .u8 0, .int .u8 0, .int .u8 0, .int .u8 32, .int .u8 1, .int .u8 13, .int .u8 184, .int .u8 1, .int .u8 34, .int .u8 192, .int .u8 0, .int .u8 0, .int .u8 2, .int .u8 33, .int .u8 0, .int .u8 0, .int .u8 0, .int .u8 0, .int .u8 0, .int .u8 32, .int .u8 1, .int .u8 13, .int .u8 184, .int .u8 1, .int .u8 34, .int .u8 3, .int .u8 192, .int .u8 0, .int .u8 0, .int .u8 2, .int .u8 33, .int .u8 0, .int .u8 0, .int .u8 0, .int .u8 0, .int .u8 32, .int .u8 1, .int .u8 13, .int .u8 184, .int .u8 1, .int .u8 34, .int .u8 3, .int .u8 68, .int .u8 0, .int .u8 192, .int .u8 0, .int .u8 2, .int .u8 33, .int .u8 0, .int .u8 0, .int .u8 0])]) yn10) ?_
          rotate_left
          · intro w hS; go_simp; try with_reducible rfl
          try simp only [Act.put, List.setIfInBounds_toArray, List.set_cons_zero, List.set_cons_succ]
          refine tk (i := 4) (v := ?_) rfl (some 51) rfl (by kernel_rfl) (by kernel_rfl) (by kernel_rfl) (fun _ _ _ h => h) (Or.inl ⟨by rfl, ?_⟩) (Mem.init (l := [(w0.heap.size, 23, a16 bs), (wb.heap.size, 23, #[.int .u8 32, .int .u8 1, .int .u8 13, .int .u8 184, .int .u8 192, .int .u8 0, .int .u8 2, .int .u8 33, .int .u8 0, .int .u8 0, .int .u8 0, .int .u8 0, .int .u8 0, .int .u8 0, .int .u8 0, .int .u8 0, .int .u8 32, .int .u8 1, .int .u8 13, .int .u8 184, .int .u8 1, .int .u8 192, .int .u8 0, .int .u8 2, .int .u8 0, .int .u8 33, .int .u8 0, .int .u8 0, .int .u8 0, .int .u8 0, .int .u8 0, .int .u8 0, .int .u8 32, .int .u8 1, .int .u8 13, .int .u8 184, .int .u8 1, .int .u8 34, .int .u8 192, .int .u8 0, .int .u8 0, .int .u8 2, .int .u8 33, .int .u8 0, .int .u8 0, .int .u8 0, .int .u8 0, .int .u8 0, .int .u8 32, .int .u8 1, .int .u8 13, .int .u8 184, .int .u8 1, .int .u8 34, .int .u8 3, .int .u8 192, .int .u8 0, .int .u8 0, .int .u8 2, .int .u8 33, .int .u8 0, .int .u8 0, .int .u8 0, .int .u8 0, .int .u8 32, .int .u8 1, .int .u8 13, .int .u8 184, .int .u8 1, .int .u8 34, .int .u8 3, .int .u8 68, .int .u8 0, .int .u8 192, .int .u8 0, .int .u8 2, .int .u8 33, .int .u8 0, .int .u8 0, .int .u8 0])]) yn10) ?_
          rotate_left
          · intro w hS; go_simp; try with_reducible rfl
          try simp only [Act.put, List.setIfInBounds_toArray, List.set_cons_zero, List.set_cons_succ]
          refine tk (i := 5) (v := ?_) rfl (some 52) rfl (by kernel_rfl) (by kernel_rfl) (by kernel_rfl) (fun _ _ _ h => h) (Or.inl ⟨by rfl, ?_⟩) (Mem.init (l := [(w0.heap.size, 23, a16 bs), (wb.heap.size, 23, #[.int .u8 32, .int .u8 1, .int .u8 13, .int .u8 184, .int .u8 192, .int .u8 0, .int .u8 2, .int .u8 33, .int .u8 0, .int .u8 0, .int .u8 0, .int .u8 0, .int .u8 0, .int .u8 0, .int .u8 0, .int .u8 0, .int .u8 32, .int .u8 1, .int .u8 13, .int .u8 184, .int .u8 1, .int .u8 192, .int .u8 0, .int .u8 2, .int .u8 0, .int .u8 33, .int .u8 0, .int .u8 0, .int .u8 0, .int .u8 0, .int .u8 0, .int .u8 0, .int .u8 32, .int .u8 1, .int .u8 13, .int .u8 184, .int .u8 1, .int .u8 34, .int .u8 192, .int .u8 0, .int .u8 0, .int .u8 2, .int .u8 33, .int .u8 0, .int .u8 0, .int .u8 0, .int .u8 0, .int .u8 0, .int .u8 32, .int .u8 1, .int .u8 13, .int .u8 184, .int .u8 1, .int .u8 34, .int .u8 3, .int .u8 192, .int .u8 0, .int .u8 0, .int .u8 2, .int .u8 33, .int .u8 0, .int .u8 0, .int .u8 0, .int .u8 0, .int .u8 32, .int .u8 1, .int .u8 13, .int .u8 184, .int .u8 1, .int .u8 34, .int .u8 3, .int .u8 68, .int .u8 0, .int .u8 192, .int .u8 0, .int .u8 2, .int .u8 33, .int .u8 0, .int .u8 0, .int .u8 0])]) yn10) ?_
          rotate_left
          · intro w hS; go_simp; try with_reducible rfl
          try simp only [Act.put, List.setIfInBounds_toArray, List.set_cons_zero, List.set_cons_succ]
          refine wpAnyH_ready (rs := [7]) (by kernel_rfl) (by simp) ?_
          refine br_store yn10 2 rfl rfl 31 (.tmp 7) _ rfl rfl rfl rfl (a4 zero) rfl (by kernel_rfl) rfl (by kernel_rfl) _ rfl (fun w' M' => Mem.init (l := [(w0.heap.size, 23, a16 bs), (wb.heap.size, 23, #[.int .u8 32, .int .u8 1, .int .u8 13, .int .u8 184, .int .u8 192, .int .u8 0, .int .u8 2, .int .u8 33, .int .u8 0, .int .u8 0, .int .u8 0, .int .u8 0, .int .u8 0, .int .u8 0, .int .u8 0, .int .u8 0, .int .u8 32, .int .u8 1, .int .u8 13, .int .u8 184, .int .u8 1, .int .u8 192, .int .u8 0, .int .u8 2, .int .u8 0, .int .u8 33, .int .u8 0, .int .u8 0, .int .u8 0, .int .u8 0, .int .u8 0, .int .u8 0, .int .u8 32, .int .u8 1, .int .u8 13, .int .u8 184, .int .u8 1, .int .u8 34, .int .u8 192, .int .u8 0, .int .u8 0, .int .u8 2, .int .u8 33, .int .u8 0, .int .u8 0, .int .u8 0, .int .u8 0, .int .u8 0, .int .u8 32, .int .u8 1, .int .u8 13, .int .u8 184, .int .u8 1, .int .u8 34, .int .u8 3, .int .u8 192, .int .u8 0, .int .u8 0, .int .u8 2, .int .u8 33, .int .u8 0, .int .u8 0, .int .u8 0, .int .u8 0, .int .u8 32, .int .u8 1, .int .u8 13, .int .u8 184, .int .u8 1, .int .u8 34, .int .u8 3, .int .u8 68, .int .u8 0, .int .u8 192, .int .u8 0, .int .u8 2, .int .u8 33, .int .u8 0, .int .u8 0, .int .u8 0])]) M') (fun y11 yn11 => ?_) ?_
          · try simp only [Act.put, List.setIfInBounds_toArray, List.set_cons_zero, List.set_cons_succ]
            refine tk (i := 8) (v := ?_) rfl (some 8) rfl (by kernel_rfl) (by kernel_rfl) (by kernel_rfl) (fun _ _ _ h => h) (Or.inl ⟨by rfl, ?_⟩) (Mem.init (l := [(w0.heap.size, 23, a16 bs), (wb.heap.size, 23, #[.int .u8 32, .int .u8 1, .int .u8 13, .int .u8 184, .int .u8 192, .int .u8 0, .int .u8 2, .int .u8 33, .int .u8 0, .int .u8 0, .int .u8 0, .int .u8 0, .int .u8 0, .int .u8 0, .int .u8 0, .int .u8 0, .int .u8 32, .int .u8 1, .int .u8 13, .int .u8 184, .int .u8 1, .int .u8 192, .int .u8 0, .int .u8 2, .int .u8 0, .int .u8 33, .int .u8 0, .int .u8 0, .int .u8 0, .int .u8 0, .int .u8 0, .int .u8 0, .int .u8 32, .int .u8 1, .int .u8 13, .int .u8 184, .int .u8 1, .int .u8 34, .int .u8 192, .int .u8 0, .int .u8 0, .int .u8 2, .int .u8 33, .int .u8 0, .int .u8 0, .int .u8 0, .int .u8 0, .int .u8 0, .int .u8 32, .int .u8 1, .int .u8 13, .int .u8 184, .int .u8 1, .int .u8 34, .int .u8 3, .int .u8 192, .int .u8 0, .int .u8 0, .int .u8 2, .int .u8 33, .int .u8 0, .int .u8 0, .int .u8 0, .int .u8 0, .int .u8 32, .int .u8 1, .int .u8 13, .int .u8 184, .int .u8 1, .int .u8 34, .int .u8 3, .int .u8 68, .int .u8 0, .int .u8 192, .int .u8 0, .int .u8 2, .int .u8 33, .int .u8 0, .int .u8 0, .int .u8 0])]) yn11) ?_
            rotate_left
            · intro w hS; go_simp; try with_reducible rfl
            try simp only [Act.put, List.setIfInBounds_toArray, List.set_cons_zero, List.set_cons_succ]
            refine wpAnyH_done (by kernel_rfl) ?_ _
            go_wp2_with fail
            go_meet
            case rel => exact ⟨_, rfl, rfl, yn11⟩
          exact AllReadyH.nil
        exact AllReadyH.nil
      exact AllReadyH.nil
    exact AllReadyH.nil
  obtain ⟨g7, rfl, rfl, MZ⟩ := hcut
  clear MR5
  go_upto_region 12 with fail
  refine wp_region_lit ?_
  refine l_call rfl (some 53) rfl (awake_any _) (by kernel_rfl) (fun s1 hb1 => ?_)
  have M1 := MZ.call hb1
  clear hb1 MZ
  try simp only [Act.put, List.setIfInBounds_toArray, List.set_cons_zero, List.set_cons_succ]
  refine lv (by kernel_rfl) (some 54) rfl (v := ?_) ?_ ?_
  rotate_left
  · go_simp; try with_reducible rfl
  try simp only [Act.put, List.setIfInBounds_toArray, List.set_cons_zero, List.set_cons_succ]
  refine ly M1 (some 55) rfl (yi_row 0 23 (.tmp 1) rfl rfl rfl rfl Try.underlying23 rfl (by kernel_rfl)) ?_
  try simp only [Act.put, List.setIfInBounds_toArray, List.set_cons_zero, List.set_cons_succ]
  refine lv (by kernel_rfl) (some 56) rfl (v := ?_) ?_ ?_
  rotate_left
  · go_simp; try with_reducible rfl
  try simp only [Act.put, List.setIfInBounds_toArray, List.set_cons_zero, List.set_cons_succ]
  refine l_call rfl (some 57) rfl (c15_1 _) (by kernel_rfl) (fun s2 hb2 => ?_)
  have M2 := M1.call hb2
  clear hb2 M1
  try simp only [Act.put, List.setIfInBounds_toArray, List.set_cons_zero, List.set_cons_succ]
  refine lv (by kernel_rfl) (some 58) rfl (v := ?_) ?_ ?_
  rotate_left
  · go_simp; try with_reducible rfl
  try simp only [Act.put, List.setIfInBounds_toArray, List.set_cons_zero, List.set_cons_succ]
  refine lv (by kernel_rfl) (some 59) rfl (v := ?_) ?_ ?_
  rotate_left
  · go_simp; try with_reducible rfl
  try simp only [Act.put, List.setIfInBounds_toArray, List.set_cons_zero, List.set_cons_succ]
  refine lv (by kernel_rfl) (some 60) rfl (v := ?_) ?_ ?_
  rotate_left
  · go_simp; try with_reducible rfl
  try simp only [Act.put, List.setIfInBounds_toArray, List.set_cons_zero, List.set_cons_succ]
  refine ly M2 (some 61) rfl (yi_row 0 23 (.tmp 1) rfl rfl rfl rfl Try.underlying23 rfl (by kernel_rfl)) ?_
  try simp only [Act.put, List.setIfInBounds_toArray, List.set_cons_zero, List.set_cons_succ]
  refine lv (by kernel_rfl) (some 62) rfl (v := ?_) ?_ ?_
  rotate_left
  · go_simp; try with_reducible rfl
  try simp only [Act.put, List.setIfInBounds_toArray, List.set_cons_zero, List.set_cons_succ]
  refine l_call rfl (some 63) rfl (c15_2 _) (by kernel_rfl) (fun s3 hb3 => ?_)
  have M3 := M2.call hb3
  clear hb3 M2
  try simp only [Act.put, List.setIfInBounds_toArray, List.set_cons_zero, List.set_cons_succ]
  refine lv (by kernel_rfl) (some 64) rfl (v := ?_) ?_ ?_
  rotate_left
  · go_simp; try with_reducible rfl
  try simp only [Act.put, List.setIfInBounds_toArray, List.set_cons_zero, List.set_cons_succ]
  refine lv (by kernel_rfl) (some 65) rfl (v := ?_) ?_ ?_
  rotate_left
  · go_simp; try with_reducible rfl
  try simp only [Act.put, List.setIfInBounds_toArray, List.set_cons_zero, List.set_cons_succ]
  refine lv (by kernel_rfl) (some 66) rfl (v := ?_) ?_ ?_
  rotate_left
  · go_simp; try with_reducible rfl
  try simp only [Act.put, List.setIfInBounds_toArray, List.set_cons_zero, List.set_cons_succ]
  refine lv (by kernel_rfl) (some 67) rfl (v := ?_) ?_ ?_
  rotate_left
  · go_simp; try with_reducible rfl
  try simp only [Act.put, List.setIfInBounds_toArray, List.set_cons_zero, List.set_cons_succ]
  refine lv (by kernel_rfl) (some 68) rfl (v := ?_) ?_ ?_
  rotate_left
  · go_simp; try with_reducible rfl
  try simp only [Act.put, List.setIfInBounds_toArray, List.set_cons_zero, List.set_cons_succ]
  refine l_call rfl (some 69) rfl (c15_3 _) (by kernel_rfl) (fun s4 hb4 => ?_)
  have M4 := M3.call hb4
  clear hb4 M3
  try simp only [Act.put, List.setIfInBounds_toArray, List.set_cons_zero, List.set_cons_succ]
  refine lv (by kernel_rfl) (some 70) rfl (v := ?_) ?_ ?_
  rotate_left
  · go_simp; try with_reducible rfl
  try simp only [Act.put, List.setIfInBounds_toArray, List.set_cons_zero, List.set_cons_succ]
  refine lv (by kernel_rfl) (some 71) rfl (v := ?_) ?_ ?_
  rotate_left
  · go_simp; try with_reducible rfl
  try simp only [Act.put, List.setIfInBounds_toArray, List.set_cons_zero, List.set_cons_succ]
  refine lv (by kernel_rfl) (some 72) rfl (v := ?_) ?_ ?_
  rotate_left
  · go_simp; try with_reducible rfl
  try simp only [Act.put, List.setIfInBounds_toArray, List.set_cons_zero, List.set_cons_succ]
  refine lv (by kernel_rfl) (some 73) rfl (v := ?_) ?_ ?_
  rotate_left
  · go_simp; try with_reducible rfl
  try simp only [Act.put, List.setIfInBounds_toArray, List.set_cons_zero, List.set_cons_succ]
  refine l_call rfl (some 74) rfl (c15_4 _) (by kernel_rfl) (fun s5 hb5 => ?_)
  have M5 := M4.call hb5
  clear hb5 M4
  try simp only [Act.put, List.setIfInBounds_toArray, List.set_cons_zero, List.set_cons_succ]
  refine lv (by kernel_rfl) (some 75) rfl (v := ?_) ?_ ?_
  rotate_left
  · go_simp; try with_reducible rfl
  try simp only [Act.put, List.setIfInBounds_toArray, List.set_cons_zero, List.set_cons_succ]
  refine lv (by kernel_rfl) (some 76) rfl (v := ?_) ?_ ?_
  rotate_left
  · go_simp; try with_reducible rfl
  try simp only [Act.put, List.setIfInBounds_toArray, List.set_cons_zero, List.set_cons_succ]
  refine lv (by kernel_rfl) (some 77) rfl (v := ?_) ?_ ?_
  rotate_left
  · go_simp; try with_reducible rfl
  try simp only [Act.put, List.setIfInBounds_toArray, List.set_cons_zero, List.set_cons_succ]
  refine lv (by kernel_rfl) (some 78) rfl (v := ?_) ?_ ?_
  rotate_left
  · go_simp; try with_reducible rfl
  try simp only [Act.put, List.setIfInBounds_toArray, List.set_cons_zero, List.set_cons_succ]
  refine lv (by kernel_rfl) (some 79) rfl (v := ?_) ?_ ?_
  rotate_left
  · go_simp; try with_reducible rfl
  try simp only [Act.put, List.setIfInBounds_toArray, List.set_cons_zero, List.set_cons_succ]
  refine lv (by kernel_rfl) (some 0) rfl (v := ?_) ?_ ?_
  rotate_left
  · go_simp; try with_reducible rfl
  try simp only [Act.put, List.setIfInBounds_toArray, List.set_cons_zero, List.set_cons_succ]
  refine wpList_nil ?_
  go_wp2_with fail
  go_ret
  exact ⟨rfl, M5.below⟩
end Go.Proofs.Ytafonnelennlhaa
