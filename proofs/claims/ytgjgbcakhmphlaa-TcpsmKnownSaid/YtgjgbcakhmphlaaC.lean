/-
  tcpsm.changes hands back a new map that reads as DC, and leaves what was there as it was. No condition.
-/
import Derived.Test.YtgjgbcakhmphlaaB
namespace Go.Proofs.Ytgjgbcakhmphlaa
open Go.RowKit Go.Maps Go.WideMaps

def onD (s l : Int) : DataW Unit := .agg [.lit (.int .i64 s), .lit (.int .i64 l)]
def onR : Value → Option (DataW Unit × List MemPlace)
  | .agg cs => match cs.toList with
    | [.int .i64 s, .int .i64 l] => some (onD s l, [])
    | _ => none
  | _ => none
theorem onR_mk (s l : Int) : onR (.agg #[.int .i64 s, .int .i64 l]) = some (onD s l, []) := rfl
abbrev Owns (w : World) (b n : Nat) (D : DataW Unit) : Prop := w.ownsMap Try.prog 41 onR b n D

def sel (b : Bool) (v : Value) : Value := if b then v else undef
def one (b : Bool) (s f k x l : Int) : List (Lit × DataW Unit) := if b then [(kl s f k, onD x l)] else []
/-- The literal's entries that have been laid, in the keys' order. -/
def D5 (b3 b6 b9 b12 b15 : Bool) : DataW Unit :=
  .map (one b6 0 4 2 1 2 ++ (one b3 0 6 2 2 2 ++ (one b9 1 6 2 3 1 ++ (one b12 2 4 2 3 1 ++ one b15 2 6 2 2 2))))
def cnt (b3 b6 b9 b12 b15 : Bool) : Nat := b3.toNat + b6.toNat + b9.toNat + b12.toNat + b15.toNat
def Laid (w : World) (b0 b3 b6 b9 b12 b15 : Bool) (w' : World) : Prop :=
  if b0 then Owns w' w.heap.size (cnt b3 b6 b9 b12 b15) (D5 b3 b6 b9 b12 b15) ∧ Below w.heap.size w w' ∧ w.heap.size < w'.heap.size
  else (b3 = false ∧ b6 = false ∧ b9 = false ∧ b12 = false ∧ b15 = false) ∧ w' = w.drew

theorem put3 (b6 b9 b12 b15 : Bool) : D5 true b6 b9 b12 b15 = (D5 false b6 b9 b12 b15).put (kl 0 6 2) (onD 2 2) := by
  cases b6 <;> cases b9 <;> cases b12 <;> cases b15 <;> rfl
theorem put6 (b3 b9 b12 b15 : Bool) : D5 b3 true b9 b12 b15 = (D5 b3 false b9 b12 b15).put (kl 0 4 2) (onD 1 2) := by
  cases b3 <;> cases b9 <;> cases b12 <;> cases b15 <;> rfl
theorem put9 (b3 b6 b12 b15 : Bool) : D5 b3 b6 true b12 b15 = (D5 b3 b6 false b12 b15).put (kl 1 6 2) (onD 3 1) := by
  cases b3 <;> cases b6 <;> cases b12 <;> cases b15 <;> rfl
theorem put12 (b3 b6 b9 b15 : Bool) : D5 b3 b6 b9 true b15 = (D5 b3 b6 b9 false b15).put (kl 2 4 2) (onD 3 1) := by
  cases b3 <;> cases b6 <;> cases b9 <;> cases b15 <;> rfl
theorem put15 (b3 b6 b9 b12 : Bool) : D5 b3 b6 b9 b12 true = (D5 b3 b6 b9 b12 false).put (kl 2 6 2) (onD 2 2) := by
  cases b3 <;> cases b6 <;> cases b9 <;> cases b12 <;> rfl
def A1 (w : World) (b0 b1 b2 b4 b5 b7 b8 b10 b11 b13 b14 b16 b17 : Bool) : Act := { tmps := #[.map none, sel b17 (.map (some w.heap.size)), undef, undef, undef, undef, sel b0 (.map (some w.heap.size)), sel b1 (.agg #[.int .i64 0, .int .i64 6, .int .i64 2]), sel b2 (.agg #[.int .i64 2, .int .i64 2]), sel b4 (.agg #[.int .i64 0, .int .i64 4, .int .i64 2]), sel b5 (.agg #[.int .i64 1, .int .i64 2]), sel b7 (.agg #[.int .i64 1, .int .i64 6, .int .i64 2]), sel b8 (.agg #[.int .i64 3, .int .i64 1]), sel b10 (.agg #[.int .i64 2, .int .i64 4, .int .i64 2]), sel b11 (.agg #[.int .i64 3, .int .i64 1]), sel b13 (.agg #[.int .i64 2, .int .i64 6, .int .i64 2]), sel b14 (.agg #[.int .i64 2, .int .i64 2]), sel b16 (.map (some w.heap.size)), undef, undef, undef, undef, undef, undef, undef, undef, undef, undef, undef, undef, undef, undef, undef, undef, undef, undef, undef, undef, undef, undef, undef, undef, undef, undef, undef, undef, undef, undef, undef, undef, undef, undef, undef, undef, undef, undef, undef, undef, undef, undef, undef, undef, undef, undef, undef, undef, undef], defers := [] }
def Inv1 (w : World) (l : Array Bool) (a : Act) (w' : World) : Prop := ∃ b0 b1 b2 b3 b4 b5 b6 b7 b8 b9 b10 b11 b12 b13 b14 b15 b16 b17 : Bool, l = #[b0, b1, b2, b3, b4, b5, b6, b7, b8, b9, b10, b11, b12, b13, b14, b15, b16, b17] ∧ a = A1 w b0 b1 b2 b4 b5 b7 b8 b10 b11 b13 b14 b16 b17 ∧ Laid w b0 b3 b6 b9 b12 b15 w'

theorem wp_val {P : Program} {o : Oper} {a : Act} {w w' : World} {v : Value} {K : Act → World → Prop} {Q : Exit → Act → World → Prop} (h : (execOp a.eval o).run P w = .ok (.value v) w') (hk : K (a.put o.dst v) w') : o.wp P a w K Q := by
  unfold Oper.wp; rw [h]; exact hk
theorem wp_none {P : Program} {o : Oper} {a : Act} {w w' : World} {K : Act → World → Prop} {Q : Exit → Act → World → Prop} (h : (execOp a.eval o).run P w = .ok .skip w') (hd : o.dst = none) (hk : K a w') : o.wp P a w K Q := by
  unfold Oper.wp; rw [h]
  show K (a.put o.dst undef) w'
  rw [hd]; exact hk
theorem run_insert {ρ : Operand → Value} {o : Oper} {t : TypeId} {m k x : Operand} {mv kv xv : Value} {P : Program} {w w' : World} (ho : o.op = .insert t m k x) (hm : ρ m = mv) (hk : ρ k = kv) (hx : ρ x = xv)
    (h : (Instr.mapUpdate t mv kv xv).run P w = .ok () w') : (execOp ρ o).run P w = .ok .skip w' := by
  subst hm hk hx
  simp [execOp, ho, h, Result.andThen]
theorem run_mm {ρ : Operand → Value} {o : Oper} {t : TypeId} {w : World} (ho : o.op = .makeMap t none) : (execOp ρ o).run Try.prog w = .ok (.value (.map (some w.heap.size))) (w.alloc (.map #[] 0)) := by
  simp [execOp, ho, run_makeMap, Result.andThen]
theorem cnt_lt (b3 b6 b9 b12 b15 : Bool) : cnt b3 b6 b9 b12 b15 < maxLen := by
  have h (b : Bool) : b.toNat ≤ 1 := by cases b <;> decide
  have := h b3; have := h b6; have := h b9; have := h b12; have := h b15
  unfold cnt maxLen; omega

theorem A1_all (w : World) : A1 w true true true true true true true true true true true true true = { tmps := #[.map none, .map (some w.heap.size), undef, undef, undef, undef, .map (some w.heap.size), .agg #[.int .i64 0, .int .i64 6, .int .i64 2], .agg #[.int .i64 2, .int .i64 2], .agg #[.int .i64 0, .int .i64 4, .int .i64 2], .agg #[.int .i64 1, .int .i64 2], .agg #[.int .i64 1, .int .i64 6, .int .i64 2], .agg #[.int .i64 3, .int .i64 1], .agg #[.int .i64 2, .int .i64 4, .int .i64 2], .agg #[.int .i64 3, .int .i64 1], .agg #[.int .i64 2, .int .i64 6, .int .i64 2], .agg #[.int .i64 2, .int .i64 2], .map (some w.heap.size), undef, undef, undef, undef, undef, undef, undef, undef, undef, undef, undef, undef, undef, undef, undef, undef, undef, undef, undef, undef, undef, undef, undef, undef, undef, undef, undef, undef, undef, undef, undef, undef, undef, undef, undef, undef, undef, undef, undef, undef, undef, undef, undef, undef, undef, undef, undef, undef, undef], defers := [] } := rfl
def depB (ops : Array Oper) : Bool := (List.range ops.size).all fun i => match ops[i]? with
  | some o => o.after.all fun e => decide (e.on < i)
  | none => true
theorem dep_of {ops : Array Oper} (h : depB ops = true) : ∀ (i : Nat) (o : Oper), ops[i]? = some o → ∀ e ∈ o.after, e.on < i := by
  intro i o ho e he
  have hi : i < ops.size := (Array.getElem?_eq_some_iff.1 ho).1
  have h1 := List.all_eq_true.1 h i (by simpa using hi)
  rw [ho] at h1
  exact of_decide_eq_true (Array.all_eq_true'.1 h1 e he)

def ups : List (Int × Int × Int × Int × Int) := [(3, 4, 0, 3, 1), (4, 4, 0, 4, 1), (5, 4, 0, 5, 1), (7, 4, 0, 3, 1), (3, 4, 1, 3, 1), (4, 4, 1, 4, 1), (5, 4, 1, 5, 1), (7, 4, 1, 3, 1), (3, 4, 2, 3, 1), (4, 4, 2, 4, 1), (5, 4, 2, 5, 1), (7, 4, 2, 3, 1), (3, 4, 4, 3, 1), (4, 4, 4, 4, 1), (5, 4, 4, 5, 1), (3, 4, 4, 7, 2), (3, 6, 0, 3, 1), (4, 6, 0, 4, 1), (5, 6, 0, 5, 1), (7, 6, 0, 3, 1), (3, 6, 1, 3, 1), (4, 6, 1, 4, 1), (5, 6, 1, 5, 1), (7, 6, 1, 3, 1), (3, 6, 2, 3, 1), (4, 6, 2, 4, 1), (5, 6, 2, 5, 1), (7, 6, 2, 3, 1), (3, 6, 4, 3, 1), (4, 6, 4, 4, 1), (5, 6, 4, 5, 1), (3, 6, 4, 7, 2), (3, 4, 1, 4, 1), (3, 6, 1, 5, 1), (4, 6, 1, 6, 2), (5, 4, 1, 6, 2)]
/-- What 'changes' hands back. -/
def DC : DataW Unit := ups.foldl (fun D u => D.put (kl u.1 u.2.1 u.2.2.1) (onD u.2.2.2.1 u.2.2.2.2)) (D5 true true true true true)
def Own3 (w wr : World) (n : Nat) (D : DataW Unit) : Prop := Owns wr w.heap.size n D ∧ Below w.heap.size w wr ∧ w.heap.size < wr.heap.size
theorem wpList_upd (w wr : World) {ops : Array Oper} {rest : List Oper} {o : Oper} {a : Act} {Q : Exit → Act → World → Prop} (hg : o.guard = none) (m x v : Operand) (hop : o.op = Op.mapUpdate 39 m x v)
    (n : Nat) (D : DataW Unit) (hO : Own3 w wr n D) (hn : n < 1000) (s f k y l : Int) (hm : a.eval m = .map (some w.heap.size)) (hx : a.eval x = .agg #[.int .i64 s, .int .i64 f, .int .i64 k]) (hv : a.eval v = .agg #[.int .i64 y, .int .i64 l])
    (h1 : (Lit.int .i64 s).wf = true) (h2 : (Lit.int .i64 f).wf = true) (h3 : (Lit.int .i64 k).wf = true)
    (hK : ∀ w', Own3 w w' (n + 1) (D.put (kl s f k) (onD y l)) → wpList Try.prog ops Q rest (a.put o.dst undef) w') : wpList Try.prog ops Q (o :: rest) a wr := by
  obtain ⟨hown, hb, hs⟩ := hO
  refine wpList_mapUpdate_own wr hg m x v 39 hop 41 37 keyed41 Try.underlying39 onR w.heap.size n D hm hown (by unfold maxLen; omega) _ _ _ hx hv (keyOf41 h1 h2 h3) _ _ (onR_mk y l) ?_
  intro w' hown' hg'
  exact hK w' ⟨hown', hb.grown hg' (by omega) (fun j hj => by cases hj; exact Nat.le_refl _), Nat.lt_of_lt_of_le hs hg'.size⟩

set_option maxHeartbeats 1000000 in
set_option maxRecDepth 100000 in
theorem changes_any (w : World) :
    Calls Try.prog 17 #[] w fun e w' => ∃ b n, e = .returned (.map (some b)) ∧ b = w.heap.size ∧ Own3 w w' n DC := by
  have i0 : ∀ w : World, (Instr.index 43 (.agg #[.int .i64 4, .int .i64 6]) (.int .i64 0)).run Try.prog w = .ok (.int .i64 4) w := fun _ => by kernel_rfl
  have i1 : ∀ w : World, (Instr.index 43 (.agg #[.int .i64 4, .int .i64 6]) (.int .i64 1)).run Try.prog w = .ok (.int .i64 6) w := fun _ => by kernel_rfl
  have k0 : ∀ w : World, (Instr.index 44 (.agg #[.int .i64 0, .int .i64 1, .int .i64 2, .int .i64 4]) (.int .i64 0)).run Try.prog w = .ok (.int .i64 0) w := fun _ => by kernel_rfl
  have k1 : ∀ w : World, (Instr.index 44 (.agg #[.int .i64 0, .int .i64 1, .int .i64 2, .int .i64 4]) (.int .i64 1)).run Try.prog w = .ok (.int .i64 1) w := fun _ => by kernel_rfl
  have k2 : ∀ w : World, (Instr.index 44 (.agg #[.int .i64 0, .int .i64 1, .int .i64 2, .int .i64 4]) (.int .i64 2)).run Try.prog w = .ok (.int .i64 2) w := fun _ => by kernel_rfl
  have k3 : ∀ w : World, (Instr.index 44 (.agg #[.int .i64 0, .int .i64 1, .int .i64 2, .int .i64 4]) (.int .i64 3)).run Try.prog w = .ok (.int .i64 4) w := fun _ => by kernel_rfl
  go_enter Try.func17, Try.ntmps17
  go_wp2
  refine wp_region_any (by kernel_rfl) ?_
  refine wpAny_inv (Inv1 w) ?_ ?_ ?_ ?_ _ _ _ _ ?_ ?_
  · exact dep_of (by kernel_rfl)
  · rintro l a w' ⟨b0, b1, b2, b3, b4, b5, b6, b7, b8, b9, b10, b11, b12, b13, b14, b15, b16, b17, rfl, _⟩
    rfl
  · rintro l a w' ⟨b0, b1, b2, b3, b4, b5, b6, b7, b8, b9, b10, b11, b12, b13, b14, b15, b16, b17, rfl, rfl, hw⟩ i o ho hl hd
    have hi : i < 18 := (Array.getElem?_eq_some_iff.1 ho).1
    obtain rfl | rfl | rfl | rfl | rfl | rfl | rfl | rfl | rfl | rfl | rfl | rfl | rfl | rfl | rfl | rfl | rfl | rfl : i = 0 ∨ i = 1 ∨ i = 2 ∨ i = 3 ∨ i = 4 ∨ i = 5 ∨ i = 6 ∨ i = 7 ∨ i = 8 ∨ i = 9 ∨ i = 10 ∨ i = 11 ∨ i = 12 ∨ i = 13 ∨ i = 14 ∨ i = 15 ∨ i = 16 ∨ i = 17 := by omega
    · -- 0
      obtain rfl := Option.some.inj ho
      obtain rfl : b0 = false := hl
      refine ⟨rfl, ?_⟩
      obtain ⟨⟨rfl, rfl, rfl, rfl, rfl⟩, rfl⟩ := hw
      refine wp_val (v := .map (some w.heap.size)) (w' := w.drew.alloc (.map #[] 0)) (run_mm rfl) ⟨true, _, _, _, _, _, _, _, _, _, _, _, _, _, _, _, _, _, rfl, rfl, ?_, ?_, ?_⟩
      · exact World.ownsMap_made _ _ _ _
      · exact (Below.drew (Below.refl _ _)).alloc (Nat.le_refl _) _
      · simp
    · -- 1
      obtain rfl := Option.some.inj ho
      obtain rfl : b1 = false := hl
      refine ⟨rfl, ?_⟩
      exact wp_val (v := .agg #[.int .i64 0, .int .i64 6, .int .i64 2]) (by kernel_rfl) ⟨_, true, _, _, _, _, _, _, _, _, _, _, _, _, _, _, _, _, rfl, rfl, hw⟩
    · -- 2
      obtain rfl := Option.some.inj ho
      obtain rfl : b2 = false := hl
      refine ⟨rfl, ?_⟩
      exact wp_val (v := .agg #[.int .i64 2, .int .i64 2]) (by kernel_rfl) ⟨_, _, true, _, _, _, _, _, _, _, _, _, _, _, _, _, _, _, rfl, rfl, hw⟩
    · -- 3
      obtain rfl := Option.some.inj ho
      obtain rfl : b3 = false := hl
      refine ⟨rfl, ?_⟩
      obtain rfl : b0 = true := hd ⟨0, .data⟩ (by simp) rfl
      obtain rfl : b1 = true := hd ⟨1, .data⟩ (by simp) rfl
      obtain rfl : b2 = true := hd ⟨2, .data⟩ (by simp) rfl
      obtain ⟨hown, hb, hs⟩ := hw
      obtain ⟨w2, hrun, hown2, hg⟩ := hown.update keyed41 Try.underlying39 (cnt_lt _ _ _ _ _) (keyOf41 (a := 0) (b := 6) (c := 2) rfl rfl rfl) (onR_mk 2 2)
      refine wp_none (w' := w2) (run_insert rfl rfl rfl rfl hrun) rfl ⟨_, _, _, true, _, _, _, _, _, _, _, _, _, _, _, _, _, _, rfl, rfl, ?_, ?_, ?_⟩
      · rw [put3]; exact hown2.mono (by first | (simp [cnt]; done) | (simp [cnt]; omega))
      · exact hb.grown hg (by omega) (fun j hj => by cases hj; exact Nat.le_refl _)
      · exact Nat.lt_of_lt_of_le hs hg.size
    · -- 4
      obtain rfl := Option.some.inj ho
      obtain rfl : b4 = false := hl
      refine ⟨rfl, ?_⟩
      exact wp_val (v := .agg #[.int .i64 0, .int .i64 4, .int .i64 2]) (by kernel_rfl) ⟨_, _, _, _, true, _, _, _, _, _, _, _, _, _, _, _, _, _, rfl, rfl, hw⟩
    · -- 5
      obtain rfl := Option.some.inj ho
      obtain rfl : b5 = false := hl
      refine ⟨rfl, ?_⟩
      exact wp_val (v := .agg #[.int .i64 1, .int .i64 2]) (by kernel_rfl) ⟨_, _, _, _, _, true, _, _, _, _, _, _, _, _, _, _, _, _, rfl, rfl, hw⟩
    · -- 6
      obtain rfl := Option.some.inj ho
      obtain rfl : b6 = false := hl
      refine ⟨rfl, ?_⟩
      obtain rfl : b0 = true := hd ⟨0, .data⟩ (by simp) rfl
      obtain rfl : b4 = true := hd ⟨4, .data⟩ (by simp) rfl
      obtain rfl : b5 = true := hd ⟨5, .data⟩ (by simp) rfl
      obtain ⟨hown, hb, hs⟩ := hw
      obtain ⟨w2, hrun, hown2, hg⟩ := hown.update keyed41 Try.underlying39 (cnt_lt _ _ _ _ _) (keyOf41 (a := 0) (b := 4) (c := 2) rfl rfl rfl) (onR_mk 1 2)
      refine wp_none (w' := w2) (run_insert rfl rfl rfl rfl hrun) rfl ⟨_, _, _, _, _, _, true, _, _, _, _, _, _, _, _, _, _, _, rfl, rfl, ?_, ?_, ?_⟩
      · rw [put6]; exact hown2.mono (by first | (simp [cnt]; done) | (simp [cnt]; omega))
      · exact hb.grown hg (by omega) (fun j hj => by cases hj; exact Nat.le_refl _)
      · exact Nat.lt_of_lt_of_le hs hg.size
    · -- 7
      obtain rfl := Option.some.inj ho
      obtain rfl : b7 = false := hl
      refine ⟨rfl, ?_⟩
      exact wp_val (v := .agg #[.int .i64 1, .int .i64 6, .int .i64 2]) (by kernel_rfl) ⟨_, _, _, _, _, _, _, true, _, _, _, _, _, _, _, _, _, _, rfl, rfl, hw⟩
    · -- 8
      obtain rfl := Option.some.inj ho
      obtain rfl : b8 = false := hl
      refine ⟨rfl, ?_⟩
      exact wp_val (v := .agg #[.int .i64 3, .int .i64 1]) (by kernel_rfl) ⟨_, _, _, _, _, _, _, _, true, _, _, _, _, _, _, _, _, _, rfl, rfl, hw⟩
    · -- 9
      obtain rfl := Option.some.inj ho
      obtain rfl : b9 = false := hl
      refine ⟨rfl, ?_⟩
      obtain rfl : b0 = true := hd ⟨0, .data⟩ (by simp) rfl
      obtain rfl : b7 = true := hd ⟨7, .data⟩ (by simp) rfl
      obtain rfl : b8 = true := hd ⟨8, .data⟩ (by simp) rfl
      obtain ⟨hown, hb, hs⟩ := hw
      obtain ⟨w2, hrun, hown2, hg⟩ := hown.update keyed41 Try.underlying39 (cnt_lt _ _ _ _ _) (keyOf41 (a := 1) (b := 6) (c := 2) rfl rfl rfl) (onR_mk 3 1)
      refine wp_none (w' := w2) (run_insert rfl rfl rfl rfl hrun) rfl ⟨_, _, _, _, _, _, _, _, _, true, _, _, _, _, _, _, _, _, rfl, rfl, ?_, ?_, ?_⟩
      · rw [put9]; exact hown2.mono (by first | (simp [cnt]; done) | (simp [cnt]; omega))
      · exact hb.grown hg (by omega) (fun j hj => by cases hj; exact Nat.le_refl _)
      · exact Nat.lt_of_lt_of_le hs hg.size
    · -- 10
      obtain rfl := Option.some.inj ho
      obtain rfl : b10 = false := hl
      refine ⟨rfl, ?_⟩
      exact wp_val (v := .agg #[.int .i64 2, .int .i64 4, .int .i64 2]) (by kernel_rfl) ⟨_, _, _, _, _, _, _, _, _, _, true, _, _, _, _, _, _, _, rfl, rfl, hw⟩
    · -- 11
      obtain rfl := Option.some.inj ho
      obtain rfl : b11 = false := hl
      refine ⟨rfl, ?_⟩
      exact wp_val (v := .agg #[.int .i64 3, .int .i64 1]) (by kernel_rfl) ⟨_, _, _, _, _, _, _, _, _, _, _, true, _, _, _, _, _, _, rfl, rfl, hw⟩
    · -- 12
      obtain rfl := Option.some.inj ho
      obtain rfl : b12 = false := hl
      refine ⟨rfl, ?_⟩
      obtain rfl : b0 = true := hd ⟨0, .data⟩ (by simp) rfl
      obtain rfl : b10 = true := hd ⟨10, .data⟩ (by simp) rfl
      obtain rfl : b11 = true := hd ⟨11, .data⟩ (by simp) rfl
      obtain ⟨hown, hb, hs⟩ := hw
      obtain ⟨w2, hrun, hown2, hg⟩ := hown.update keyed41 Try.underlying39 (cnt_lt _ _ _ _ _) (keyOf41 (a := 2) (b := 4) (c := 2) rfl rfl rfl) (onR_mk 3 1)
      refine wp_none (w' := w2) (run_insert rfl rfl rfl rfl hrun) rfl ⟨_, _, _, _, _, _, _, _, _, _, _, _, true, _, _, _, _, _, rfl, rfl, ?_, ?_, ?_⟩
      · rw [put12]; exact hown2.mono (by first | (simp [cnt]; done) | (simp [cnt]; omega))
      · exact hb.grown hg (by omega) (fun j hj => by cases hj; exact Nat.le_refl _)
      · exact Nat.lt_of_lt_of_le hs hg.size
    · -- 13
      obtain rfl := Option.some.inj ho
      obtain rfl : b13 = false := hl
      refine ⟨rfl, ?_⟩
      exact wp_val (v := .agg #[.int .i64 2, .int .i64 6, .int .i64 2]) (by kernel_rfl) ⟨_, _, _, _, _, _, _, _, _, _, _, _, _, true, _, _, _, _, rfl, rfl, hw⟩
    · -- 14
      obtain rfl := Option.some.inj ho
      obtain rfl : b14 = false := hl
      refine ⟨rfl, ?_⟩
      exact wp_val (v := .agg #[.int .i64 2, .int .i64 2]) (by kernel_rfl) ⟨_, _, _, _, _, _, _, _, _, _, _, _, _, _, true, _, _, _, rfl, rfl, hw⟩
    · -- 15
      obtain rfl := Option.some.inj ho
      obtain rfl : b15 = false := hl
      refine ⟨rfl, ?_⟩
      obtain rfl : b0 = true := hd ⟨0, .data⟩ (by simp) rfl
      obtain rfl : b13 = true := hd ⟨13, .data⟩ (by simp) rfl
      obtain rfl : b14 = true := hd ⟨14, .data⟩ (by simp) rfl
      obtain ⟨hown, hb, hs⟩ := hw
      obtain ⟨w2, hrun, hown2, hg⟩ := hown.update keyed41 Try.underlying39 (cnt_lt _ _ _ _ _) (keyOf41 (a := 2) (b := 6) (c := 2) rfl rfl rfl) (onR_mk 2 2)
      refine wp_none (w' := w2) (run_insert rfl rfl rfl rfl hrun) rfl ⟨_, _, _, _, _, _, _, _, _, _, _, _, _, _, _, true, _, _, rfl, rfl, ?_, ?_, ?_⟩
      · rw [put15]; exact hown2.mono (by first | (simp [cnt]; done) | (simp [cnt]; omega))
      · exact hb.grown hg (by omega) (fun j hj => by cases hj; exact Nat.le_refl _)
      · exact Nat.lt_of_lt_of_le hs hg.size
    · -- 16
      obtain rfl := Option.some.inj ho
      obtain rfl : b16 = false := hl
      refine ⟨rfl, ?_⟩
      obtain rfl : b0 = true := hd ⟨0, .data⟩ (by simp) rfl
      exact wp_val (v := .map (some w.heap.size)) rfl ⟨_, _, _, _, _, _, _, _, _, _, _, _, _, _, _, _, true, _, rfl, rfl, hw⟩
    · -- 17
      obtain rfl := Option.some.inj ho
      obtain rfl : b17 = false := hl
      refine ⟨rfl, ?_⟩
      obtain rfl : b16 = true := hd ⟨16, .data⟩ (by simp) rfl
      exact wp_val (v := .map (some w.heap.size)) rfl ⟨_, _, _, _, _, _, _, _, _, _, _, _, _, _, _, _, _, true, rfl, rfl, hw⟩
  · rintro l a w' ⟨b0, b1, b2, b3, b4, b5, b6, b7, b8, b9, b10, b11, b12, b13, b14, b15, b16, b17, rfl, rfl, hw⟩ hall
    obtain rfl : b0 = true := hall 0 (by decide)
    obtain rfl : b1 = true := hall 1 (by decide)
    obtain rfl : b2 = true := hall 2 (by decide)
    obtain rfl : b3 = true := hall 3 (by decide)
    obtain rfl : b4 = true := hall 4 (by decide)
    obtain rfl : b5 = true := hall 5 (by decide)
    obtain rfl : b6 = true := hall 6 (by decide)
    obtain rfl : b7 = true := hall 7 (by decide)
    obtain rfl : b8 = true := hall 8 (by decide)
    obtain rfl : b9 = true := hall 9 (by decide)
    obtain rfl : b10 = true := hall 10 (by decide)
    obtain rfl : b11 = true := hall 11 (by decide)
    obtain rfl : b12 = true := hall 12 (by decide)
    obtain rfl : b13 = true := hall 13 (by decide)
    obtain rfl : b14 = true := hall 14 (by decide)
    obtain rfl : b15 = true := hall 15 (by decide)
    obtain rfl : b16 = true := hall 16 (by decide)
    obtain rfl : b17 = true := hall 17 (by decide)
    obtain ⟨hown, hb, hs⟩ := hw
    rw [A1_all]
    have hO : Own3 w w' 5 (D5 true true true true true) := ⟨hown, hb, hs⟩
    clear hown hb hs hall
    go_wp2
    refine wp_loop_rounds 3 ?_
    rw [rounds_succ]
    go_wp2_with (at_mapUpdate; refine wpList_upd w _ rfl _ _ _ rfl _ _ hO (by omega) _ _ _ _ _ rfl rfl rfl rfl rfl rfl ?_; clear hO; intro w1 hO)
    refine wp_loop_rounds 5 ?_
    rw [rounds_succ]
    go_wp2_with (at_mapUpdate; refine wpList_upd w _ rfl _ _ _ rfl _ _ hO (by omega) _ _ _ _ _ rfl rfl rfl rfl rfl rfl ?_; clear hO; intro w1 hO)
    rw [rounds_succ]
    go_wp2_with (at_mapUpdate; refine wpList_upd w _ rfl _ _ _ rfl _ _ hO (by omega) _ _ _ _ _ rfl rfl rfl rfl rfl rfl ?_; clear hO; intro w1 hO)
    rw [rounds_succ]
    go_wp2_with (at_mapUpdate; refine wpList_upd w _ rfl _ _ _ rfl _ _ hO (by omega) _ _ _ _ _ rfl rfl rfl rfl rfl rfl ?_; clear hO; intro w1 hO)
    rw [rounds_succ]
    go_wp2_with (at_mapUpdate; refine wpList_upd w _ rfl _ _ _ rfl _ _ hO (by omega) _ _ _ _ _ rfl rfl rfl rfl rfl rfl ?_; clear hO; intro w1 hO)
    rw [rounds_succ]
    go_wp2_with (at_mapUpdate; refine wpList_upd w _ rfl _ _ _ rfl _ _ hO (by omega) _ _ _ _ _ rfl rfl rfl rfl rfl rfl ?_; clear hO; intro w1 hO)
    rw [rounds_succ]
    go_wp2_with (at_mapUpdate; refine wpList_upd w _ rfl _ _ _ rfl _ _ hO (by omega) _ _ _ _ _ rfl rfl rfl rfl rfl rfl ?_; clear hO; intro w1 hO)
    refine wp_loop_rounds 5 ?_
    rw [rounds_succ]
    go_wp2_with (at_mapUpdate; refine wpList_upd w _ rfl _ _ _ rfl _ _ hO (by omega) _ _ _ _ _ rfl rfl rfl rfl rfl rfl ?_; clear hO; intro w1 hO)
    rw [rounds_succ]
    go_wp2_with (at_mapUpdate; refine wpList_upd w _ rfl _ _ _ rfl _ _ hO (by omega) _ _ _ _ _ rfl rfl rfl rfl rfl rfl ?_; clear hO; intro w1 hO)
    rw [rounds_succ]
    go_wp2_with (at_mapUpdate; refine wpList_upd w _ rfl _ _ _ rfl _ _ hO (by omega) _ _ _ _ _ rfl rfl rfl rfl rfl rfl ?_; clear hO; intro w1 hO)
    rw [rounds_succ]
    go_wp2_with (at_mapUpdate; refine wpList_upd w _ rfl _ _ _ rfl _ _ hO (by omega) _ _ _ _ _ rfl rfl rfl rfl rfl rfl ?_; clear hO; intro w1 hO)
    rw [rounds_succ]
    go_wp2_with (at_mapUpdate; refine wpList_upd w _ rfl _ _ _ rfl _ _ hO (by omega) _ _ _ _ _ rfl rfl rfl rfl rfl rfl ?_; clear hO; intro w1 hO)
    rw [rounds_succ]
    go_wp2_with (at_mapUpdate; refine wpList_upd w _ rfl _ _ _ rfl _ _ hO (by omega) _ _ _ _ _ rfl rfl rfl rfl rfl rfl ?_; clear hO; intro w1 hO)
    go_ret
    exact ⟨w.heap.size, _, rfl, rfl, hO⟩
  · exact ⟨false, false, false, false, false, false, false, false, false, false, false, false, false, false, false, false, false, false, rfl, rfl, ⟨rfl, rfl, rfl, rfl, rfl⟩, rfl⟩
  · decide
end Go.Proofs.Ytgjgbcakhmphlaa
