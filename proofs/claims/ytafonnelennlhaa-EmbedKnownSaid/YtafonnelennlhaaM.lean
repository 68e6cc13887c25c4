/-
  What a walk holds in memory, as a list of blocks: loads, stores, new blocks, calls. Equality of two addresses. Conditions stand in each statement.
-/
import Derived.Test.YtafonnelennlhaaL
import Derived.Laws.StructEq
import Derived.Stop.BytesEq
namespace Go.Proofs.Ytafonnelennlhaa
open Go.RowKit

abbrev Row := Nat × TypeId × Array Value
/-- The world w lies over W, and holds these blocks, each new since W. -/
structure Mem (W w : World) (l : List Row) : Prop where
  below : Below W.heap.size W w
  blk : ∀ p ∈ l, Blk w p.1 p.2.1 p.2.2
  base : ∀ p ∈ l, W.heap.size ≤ p.1
  nodup : (l.map fun p => p.1).Nodup
theorem Mem.start (W : World) : Mem W W [] := ⟨Below.refl _ _, by simp, by simp, by simp⟩
theorem Mem.row {W w : World} {l : List Row} (M : Mem W w l) {i g : Nat} {t : TypeId} {cs : Array Value} (hl : l[i]? = some (g, t, cs)) : Blk w g t cs := M.blk _ (List.mem_of_getElem? hl)
theorem Mem.call {W w w' : World} {l : List Row} (M : Mem W w l) (hb : Below w.heap.size w w') : Mem W w' l :=
  ⟨M.below.trans (hb.mono M.below.size), fun p hp => (M.blk p hp).below hb, M.base, M.nodup⟩
theorem Mem.drew {W w : World} {l : List Row} (M : Mem W w l) : Mem W w.drew l := ⟨M.below.drew, fun p hp => M.blk p hp, M.base, M.nodup⟩
theorem Mem.drewN {W w : World} {l : List Row} (M : Mem W w l) (n : Nat) : Mem W (w.drewN n) l := ⟨below_drewN M.below n, fun p hp => M.blk p hp, M.base, M.nodup⟩
theorem Mem.new {W w : World} {l : List Row} (M : Mem W w l) {g : Nat} (hg : w.heap.size = g) (t : TypeId) (cs : Array Value) : Mem W (w.alloc (.cells cs t)) (l ++ [(g, t, cs)]) := by
  refine ⟨M.below.alloc M.below.size _, ?_, ?_, ?_⟩
  · intro p hp
    rcases List.mem_append.1 hp with h | h
    · exact (M.blk p h).alloc _
    · rw [List.mem_singleton] at h; subst h; exact Blk.new w t cs hg
  · intro p hp
    rcases List.mem_append.1 hp with h | h
    · exact M.base p h
    · rw [List.mem_singleton] at h; subst h; have := M.below.size; show _ ≤ g; omega
  · rw [List.map_append, List.nodup_append]
    refine ⟨M.nodup, by simp, ?_⟩
    intro a ha b hb
    obtain ⟨p, hp, rfl⟩ := List.mem_map.1 ha
    simp only [List.map_cons, List.map_nil, List.mem_singleton] at hb
    have := (M.blk p hp).lt
    omega
theorem Mem.st {W w w' : World} {l : List Row} (M : Mem W w l) {i g : Nat} {t : TypeId} {old vs : Array Value} (hl : l[i]? = some (g, t, old)) (O : Oth g w w') (B : Blk w' g t vs) : Mem W w' (l.set i (g, t, vs)) := by
  have hlt : i < l.length := (List.getElem?_eq_some_iff.1 hl).1
  have hgi : l[i] = (g, t, old) := (List.getElem?_eq_some_iff.1 hl).2
  have hbg : W.heap.size ≤ g := M.base _ (List.mem_of_getElem? hl)
  have hmap : (l.set i (g, t, vs)).map (fun p => p.1) = l.map fun p => p.1 := by
    rw [List.map_set]
    apply List.ext_getElem?
    intro k
    rw [List.getElem?_set]
    split
    · rename_i hk; subst hk; simp [hlt, hgi]
    · rfl
  refine ⟨oth_below M.below O hbg, ?_, ?_, ?_⟩
  · intro p hp
    obtain ⟨k, hk, rfl⟩ := List.mem_iff_getElem.1 hp
    have hk' : k < l.length := by simpa using hk
    by_cases e : i = k
    · subst e; simpa using B
    · have h1 : (l.set i (g, t, vs))[k] = l[k] := by rw [List.getElem_set]; simp [e]
      rw [h1]
      refine (M.blk _ (List.getElem_mem hk')).oth O ?_
      intro h2
      have hn := M.nodup
      rw [List.nodup_iff_pairwise_ne, List.pairwise_iff_getElem] at hn
      rcases Nat.lt_or_gt_of_ne e with h3 | h3
      · exact hn i k (by simpa using hlt) (by simpa using hk') h3 (by simp [hgi, h2])
      · exact hn k i (by simpa using hk') (by simpa using hlt) h3 (by simp [hgi, h2])
  · intro p hp
    have : p.1 ∈ (l.set i (g, t, vs)).map fun p => p.1 := List.mem_map_of_mem hp
    rw [hmap] at this
    obtain ⟨q, hq, e⟩ := List.mem_map.1 this
    rw [← e]; exact M.base q hq
  · rw [hmap]; exact M.nodup

variable {ops : Array Oper} {rest : List Oper} {o : Oper} {a : Act} {Q : Exit → Act → World → Prop}
theorem wpList_want {w : World} (hw : Region.wanted o (yielded ops a.tmps) = true) (h : ∀ K : Act → World → Prop, (∀ a w, wpList Try.prog ops Q rest a w → K a w) → o.wp Try.prog a w K Q) : wpList Try.prog ops Q (o :: rest) a w :=
  wpList_step fun K hK => by rw [if_pos hw]; exact h K hK
theorem ms_row {W w : World} {l : List Row} (M : Mem W w l) (i : Nat) (ty : TypeId) (x y : Operand) (ho : o.op = .store ty x y) (hw : Region.wanted o (yielded ops a.tmps) = true)
    {g : Nat} {t : TypeId} {old : Array Value} (hl : l[i]? = some (g, t, old)) (hx : a.eval x = .pointer (some ⟨g, 0, none⟩)) (vs : Array Value) (hy : a.eval y = .agg vs)
    (hi : (Try.prog.info? ty).map (·.size) = some vs.size) (hold : old.size = vs.size) (h1 : vs.all (·.oneCell') = true) (l' : List Row) (hs : l.set i (g, t, vs) = l')
    (h : ∀ w', Mem W w' l' → wpList Try.prog ops Q rest (a.put o.dst undef) w') : wpList Try.prog ops Q (o :: rest) a w := by
  refine wpList_want hw fun K hK => ?_
  have B := M.row hl
  refine wp_store_row ty x y ho g vs hx hy t old B hi hold h1 (hK _ _ (h _ ?_))
  rw [← hs]
  exact M.st hl (Oth.setRow w g vs) (setRow_heap w g old vs t _ B)
theorem ms_new {W w : World} {l : List Row} (M : Mem W w l) (ty : TypeId) (x y : Operand) (ho : o.op = .store ty x y) (hw : Region.wanted o (yielded ops a.tmps) = true)
    (t : TypeId) (old : Array Value) (hx : a.eval x = .pointer (some ⟨w.heap.size, 0, none⟩)) (vs : Array Value) (hy : a.eval y = .agg vs)
    (hi : (Try.prog.info? ty).map (·.size) = some vs.size) (hold : old.size = vs.size) (h1 : vs.all (·.oneCell') = true) (l' : List Row) (hs : l ++ [(w.heap.size, t, vs)] = l')
    (h : ∀ w', Mem W w' l' → wpList Try.prog ops Q rest (a.put o.dst undef) w') : wpList Try.prog ops Q (o :: rest) a (w.alloc (.cells old t)) := by
  have M1 := M.new rfl t old
  refine ms_row M1 l.length ty x y ho hw (g := w.heap.size) (t := t) (old := old) (by simp) hx vs hy hi hold h1 l' ?_ h
  rw [← hs]
  simp
theorem ms_cell {W w : World} {l : List Row} (M : Mem W w l) (i : Nat) (ty : TypeId) (x y : Operand) (ho : o.op = .store ty x y) (hw : Region.wanted o (yielded ops a.tmps) = true)
    {g : Nat} {t : TypeId} {old : Array Value} (hl : l[i]? = some (g, t, old)) (j : Nat) (hx : a.eval x = .pointer (some ⟨g, j, none⟩)) (v : Value) (hy : a.eval y = v)
    (hi : (Try.prog.info? ty).map (·.size) = some 1) (hlt : decide (j < old.size) = true) (h1 : v.oneCell' = true) (hc : v.cells = #[v]) (new : Array Value) (hn : old.setIfInBounds j v = new)
    (l' : List Row) (hs : l.set i (g, t, new) = l')
    (h : ∀ w', Mem W w' l' → wpList Try.prog ops Q rest (a.put o.dst undef) w') : wpList Try.prog ops Q (o :: rest) a w := by
  refine wpList_want hw fun K hK => ?_
  have B := M.row hl
  unfold Oper.wp execOp
  simp only [ho, hx, hy, Instr.storeAt, Instr.sureAddr, Sem.run_bind, Sem.run_pure, Result.andThen_ok, run_storeVar_one w g j t ty old v B hi (of_decide_eq_true hlt) h1 hc]
  refine hK _ _ (h _ ?_)
  rw [← hs]
  refine M.st hl (Oth.setRow w g _) ?_
  rw [hn]
  exact setRow_heap w g old new t _ B
theorem ml_part {W w : World} {l : List Row} (M : Mem W w l) (i : Nat) (ty : TypeId) (x : Operand) (ho : o.op = .load ty x) (hw : Region.wanted o (yielded ops a.tmps) = true)
    {g : Nat} {t : TypeId} {cs : Array Value} (hl : l[i]? = some (g, t, cs)) (off : Nat) (hx : a.eval x = .pointer (some ⟨g, off, none⟩)) (vs : Array Value) {d : TypeDesc}
    (hu : Try.prog.underlying ty = some d) (hd : aggD d = true) (hi : (Try.prog.info? ty).map (·.size) = some vs.size) (hv : (cs.toList.drop off).take vs.size = vs.toList)
    (h : wpList Try.prog ops Q rest (a.put o.dst (.agg vs)) w) : wpList Try.prog ops Q (o :: rest) a w := by
  refine wpList_want hw fun K hK => ?_
  unfold Oper.wp execOp
  simp only [ho, hx, Instr.loadAt, Instr.sureAddr, Sem.run_bind, Sem.run_pure, Result.andThen_ok, run_loadVar_part w g off t ty cs vs d (M.row hl) hu hd hi hv]
  exact hK _ _ h
theorem ml_row {W w : World} {l : List Row} (M : Mem W w l) (i : Nat) (ty : TypeId) (x : Operand) (ho : o.op = .load ty x) (hw : Region.wanted o (yielded ops a.tmps) = true)
    {g : Nat} {t : TypeId} {cs : Array Value} (hl : l[i]? = some (g, t, cs)) (hx : a.eval x = .pointer (some ⟨g, 0, none⟩)) {d : TypeDesc}
    (hu : Try.prog.underlying ty = some d) (hd : aggD d = true) (hi : (Try.prog.info? ty).map (·.size) = some cs.size)
    (h : wpList Try.prog ops Q rest (a.put o.dst (.agg cs)) w) : wpList Try.prog ops Q (o :: rest) a w :=
  ml_part M i ty x ho hw hl 0 hx cs hu hd hi (by rw [List.drop_zero]; exact List.take_of_length_le (by simp)) h
theorem ml_cell {W w : World} {l : List Row} (M : Mem W w l) (i : Nat) (ty : TypeId) (x : Operand) (ho : o.op = .load ty x) (hw : Region.wanted o (yielded ops a.tmps) = true)
    {g : Nat} {t : TypeId} {cs : Array Value} (hl : l[i]? = some (g, t, cs)) (j : Nat) (hx : a.eval x = .pointer (some ⟨g, j, none⟩)) (v : Value) {k : IntKind} (hu : Try.prog.underlying ty = some (.int k)) (hv : cs[j]? = some v)
    (h : wpList Try.prog ops Q rest (a.put o.dst v) w) : wpList Try.prog ops Q (o :: rest) a w := by
  refine wpList_want hw fun K hK => ?_
  have hcell := (M.row hl).cell hv
  have hagg : (isAgg ty).run Try.prog w = .ok false w := by
    unfold isAgg
    rw [Sem.run_bind, run_underlying hu w]
    rfl
  unfold Oper.wp execOp
  simp only [ho, hx, Instr.loadAt, Instr.sureAddr, Sem.run_bind, Sem.run_pure, Result.andThen_ok, loadVar, hagg]
  simp [run_load, hcell]
  exact hK _ _ h

/-- '==' of two rows of bytes. -/
theorem all_eq (P X : Nat → Int) (n : Nat) : ((List.range n).all fun i => P i == X i) = true ↔ EqTo P X n := by
  rw [List.all_eq_true]
  constructor
  · intro h j hj; simpa using h j (List.mem_range.2 hj)
  · intro h j hj; simpa using h j (List.mem_range.1 hj)
theorem run_equalIn_row (w : World) (d : Nat) (t : TypeId) (n : Nat) (ht : Try.prog.underlying t = some (.array n 5)) (cs ds : Array Value) (P X : Nat → Int)
    (hc : ∀ i, i < n → cs[i]? = some (.int .u8 (P i))) (hd : ∀ i, i < n → ds[i]? = some (.int .u8 (X i))) :
    (Op.equalIn (d + 2) t (.agg cs) (.agg ds)).run Try.prog w = .ok ((List.range n).all fun i => P i == X i) w := by
  have hsz : ∀ w, (sizeOf 5).run Try.prog w = .ok 1 w := fun w => by kernel_rfl
  rw [List.range_eq_range', Op.equalIn]
  simp only [Sem.run_bind, run_underlying ht, Result.andThen_ok, hsz, Std.Legacy.Range.forIn_eq_forIn_range', Std.Legacy.Range.size, Nat.sub_zero, Nat.add_sub_cancel, Nat.div_one]
  have hl : ∀ i ∈ List.range' 0 n 1, i < n := fun i hi => by simpa using (List.mem_range'_1.1 hi).2
  generalize List.range' 0 n 1 = l at hl ⊢
  induction l with
  | nil => simp
  | cons i l ih =>
    have hi : i < n := hl i (by simp)
    have px : (part 5 cs (i * 1)).run Try.prog w = .ok (.int .u8 (P i)) w := by
      simp [part, isAgg, run_underlying Try.underlying5, hc i hi]
    have py : (part 5 ds (i * 1)).run Try.prog w = .ok (.int .u8 (X i)) w := by
      simp [part, isAgg, run_underlying Try.underlying5, hd i hi]
    have pe : (Op.equalIn (d + 1) 5 (.int .u8 (P i)) (.int .u8 (X i))).run Try.prog w = .ok (P i == X i) w := run_equalIn_int w d 5 .u8 .u8 _ _ Try.underlying5
    simp only [List.forIn_cons, Sem.run_bind, px, py, pe, Result.andThen_ok, List.all_cons]
    cases hb : (P i == X i)
    · simp
    · simp only [Bool.not_true, Bool.false_eq_true, if_false, Sem.run_pure, Result.andThen_ok, Bool.true_and]
      exact ih fun j hj => hl j (by simp [hj])
theorem get16 (P : Nat → Int) : ∀ i, i < 16 → (a16 P)[i]? = some (.int .u8 (P i)) := by
  intro i hi
  match i, hi with
  | 0, _ => exact rfl | 1, _ => exact rfl | 2, _ => exact rfl | 3, _ => exact rfl | 4, _ => exact rfl | 5, _ => exact rfl | 6, _ => exact rfl | 7, _ => exact rfl
  | 8, _ => exact rfl | 9, _ => exact rfl | 10, _ => exact rfl | 11, _ => exact rfl | 12, _ => exact rfl | 13, _ => exact rfl | 14, _ => exact rfl | 15, _ => exact rfl | k + 16, h => exact absurd h (by omega)
theorem get4 (P : Nat → Int) : ∀ i, i < 4 → (a4 P)[i]? = some (.int .u8 (P i)) := by
  intro i hi
  match i, hi with
  | 0, _ => exact rfl | 1, _ => exact rfl | 2, _ => exact rfl | 3, _ => exact rfl | k + 4, h => exact absurd h (by omega)
theorem eq16 {P X : Nat → Int} {r : Bool} (hr : r = true ↔ EqTo P X 16) (w : World) : (Op.equalIn 10000 23 (.agg (a16 P)) (.agg (a16 X))).run Try.prog w = .ok r w := by
  rw [run_equalIn_row w 9998 23 16 Try.underlying23 (a16 P) (a16 X) P X (get16 P) (get16 X), Bool.eq_iff_iff.2 ((all_eq P X 16).trans hr.symm)]
theorem eq4 {P X : Nat → Int} {r : Bool} (hr : r = true ↔ EqTo P X 4) (w : World) : (Op.equalIn 10000 31 (.agg (a4 P)) (.agg (a4 X))).run Try.prog w = .ok r w := by
  rw [run_equalIn_row w 9998 31 4 Try.underlying31 (a4 P) (a4 X) P X (get4 P) (get4 X), Bool.eq_iff_iff.2 ((all_eq P X 4).trans hr.symm)]
end Go.Proofs.Ytafonnelennlhaa
