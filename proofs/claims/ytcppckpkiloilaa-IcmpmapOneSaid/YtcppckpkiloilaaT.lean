/-
  Laws of the memory in a walk: blocks, what is loaded and stored, regions that draw their order. Conditions stand in each statement.
-/
import Derived.Test.YtcppckpkiloilaaO
import Derived.Laws.CopyRow
import Derived.Deep.RegionHeld3
import Derived.Deep.CutRange
import Derived.Deep.DeepCutAuto
namespace Go.Proofs.Ytcppckpkiloilaa
open Go.RowKit

/-- Block g holds just these cells, none frozen. -/
def Bk (w : World) (g : Nat) (t : TypeId) (cs : Array Value) : Prop := w.heap[g]? = some (.cells cs t)
theorem Bk.lt {w : World} {g : Nat} {t : TypeId} {cs : Array Value} (h : Bk w g t cs) : g < w.heap.size := (Array.getElem?_eq_some_iff.1 h).1
theorem Bk.new (w : World) (t : TypeId) (cs : Array Value) {g : Nat} (hg : w.heap.size = g) : Bk (w.alloc (.cells cs t)) g t cs := by subst hg; exact (MapKept.heap_alloc w _).1
theorem Bk.alloc {w : World} {g : Nat} {t : TypeId} {cs : Array Value} (h : Bk w g t cs) (o : Obj) : Bk (w.alloc o) g t cs := (Below.heap_alloc w o g h.lt).trans h
theorem Bk.below {W w' : World} {g : Nat} {t : TypeId} {cs : Array Value} (h : Bk W g t cs) (hb : Below W.heap.size W w') : Bk w' g t cs := (hb.block g h.lt).trans h
theorem Bk.drew {w : World} {g : Nat} {t : TypeId} {cs : Array Value} (h : Bk w g t cs) : Bk w.drew g t cs := h
theorem Bk.cell {w : World} {g : Nat} {t : TypeId} {cs : Array Value} (h : Bk w g t cs) {i : Nat} {v : Value} (hi : cs[i]? = some v) : w.cell? ⟨g, i, none⟩ = some v := by
  unfold World.cell?
  rw [show w.heap[g]? = some (.cells cs t) from h]
  exact hi

/-- All blocks but g are as they were. -/
structure Oth (g : Nat) (w w' : World) : Prop where
  os : w'.os = w.os
  tape : w'.tape = w.tape
  output : w'.output = w.output
  size : w'.heap.size = w.heap.size
  block : ∀ k, k ≠ g → w'.heap[k]? = w.heap[k]?
theorem Bk.oth {w w' : World} {g k : Nat} {t : TypeId} {cs : Array Value} (h : Bk w k t cs) (O : Oth g w w') (hk : k ≠ g) : Bk w' k t cs := (O.block k hk).trans h
theorem oth_below {B g : Nat} {a w w' : World} (h : Below B a w) (O : Oth g w w') (hB : B ≤ g) : Below B a w' :=
  h.trans ⟨O.os, O.tape, O.output, by rw [O.size]; exact Nat.le_refl _, fun k hk => O.block k (by omega)⟩
theorem Oth.setRow (w : World) (g : Nat) (cs : Array Value) : Oth g w (w.setRow g cs) := ⟨rfl, rfl, rfl, by simp, fun k hk => setRow_other w g k cs hk⟩

theorem run_storeVar_one (w : World) (g i : Nat) (t ty : TypeId) (old : Array Value) (v : Value) (hg : Bk w g t old) (hi : (Try.prog.info? ty).map (·.size) = some 1)
    (hlt : i < old.size) (h1 : v.oneCell' = true) (hc : v.cells = #[v]) :
    (storeVar ty ⟨g, i, none⟩ v).run Try.prog w = .ok () (w.setRow g (old.setIfInBounds i v)) := by
  have hcell : w.cell? ⟨g, i, none⟩ = some old[i] := by unfold Bk at hg; simp [World.cell?, hg, hlt]
  have hfro : w.frozen? ⟨g, i, none⟩ = false := by unfold Bk at hg; simp [World.frozen?, hg]
  have hst : (store (⟨g, i, none⟩ : Addr) v).run Try.prog w = .ok () (w.setRow g (old.setIfInBounds i v)) := by
    rw [run_store Try.prog w _ v _ h1, hcell]
    simp [hfro, setCell_eq_setRow w g i old t (0, 0) v hg]
  have hadd : (⟨g, i, none⟩ : Addr).add 0 = ⟨g, i, none⟩ := by unfold Addr.add; split <;> simp_all
  cases hq : Try.prog.info? ty with
  | none => simp [hq] at hi
  | some j =>
    have hs : j.size = 1 := by simpa [hq] using hi
    simp [storeVar, sizeOf, typeInfo, hq, hc, hs, storeCells, hadd, Sem.run_bind, hst]
def aggD : TypeDesc → Bool | .struct _ => true | .array _ _ => true | _ => false
theorem run_loadVar_part (w : World) (g off : Nat) (t ty : TypeId) (cs vs : Array Value) (d : TypeDesc) (hg : Bk w g t cs)
    (hu : Try.prog.underlying ty = some d) (hd : aggD d = true) (hi : (Try.prog.info? ty).map (·.size) = some vs.size)
    (hv : (cs.toList.drop off).take vs.size = vs.toList) :
    (loadVar ty ⟨g, off, none⟩).run Try.prog w = .ok (.agg vs) w := by
  have hl : (loadCells ⟨g, off, none⟩ vs.toList.length).run Try.prog w = .ok vs.toList.toArray w :=
    run_loadCells_list (P := Try.prog) w ⟨g, off, none⟩ vs.toList (fun j v h => by
      have hadd : (⟨g, off, none⟩ : Addr).add j = ⟨g, off + j, none⟩ := by unfold Addr.add; split <;> simp_all
      rw [hadd, cell_of_row w g _ cs t _ hg]
      rw [← hv] at h
      rw [List.getElem?_take] at h
      split at h
      · rw [List.getElem?_drop] at h
        simpa using h
      · cases h)
  cases hq : Try.prog.info? ty with
  | none => simp [hq] at hi
  | some i =>
    have hs : i.size = vs.size := by simpa [hq] using hi
    have hagg : (isAgg ty).run Try.prog w = .ok true w := by
      unfold isAgg
      rw [Sem.run_bind, run_underlying hu w]
      cases d <;> simp_all [aggD]
    simp only [Array.length_toList, Array.toArray_toList] at hl
    simp [loadVar, Sem.run_bind, hagg, sizeOf, typeInfo, hq, hs, hl]
theorem results_cell_tmp {fn : Func} {p q : Tmp} {ty : TypeId} (h : fn.results = #[.cell p ty, .tmp q]) {tmps : Array Value} {w : World} {g : Nat} {t : TypeId} {cs : Array Value} (hg : Bk w g t cs) (d : TypeDesc)
    (hp : tmps.getD p undef = .pointer (some ⟨g, 0, none⟩)) (v : Value) (hq : tmps.getD q undef = v)
    (hu : Try.prog.underlying ty = some d) (hd : aggD d = true) (hi : (Try.prog.info? ty).map (·.size) = some cs.size) :
    (results fn tmps).run Try.prog w = .ok (.tuple #[.agg cs, v]) w := by
  have hp' : tmps[p]?.getD undef = .pointer (some ⟨g, 0, none⟩) := by simpa using hp
  have hq' : tmps[q]?.getD undef = v := by simpa using hq
  simp [results, h, hp', hq', asAddr, run_loadVar_part w g 0 t ty cs cs d hg hu hd hi (by rw [List.drop_zero]; exact List.take_of_length_le (by simp))]
abbrev Row := Nat × TypeId × Array Value
/-- The world w lies over W, and holds these blocks, each new since W. -/
structure Mem (W w : World) (l : List Row) : Prop where
  below : Below W.heap.size W w
  blk : ∀ p ∈ l, Bk w p.1 p.2.1 p.2.2
  base : ∀ p ∈ l, W.heap.size ≤ p.1
  nodup : (l.map fun p => p.1).Nodup
theorem Mem.start (W : World) : Mem W W [] := ⟨Below.refl _ _, by simp, by simp, by simp⟩
theorem Mem.row {W w : World} {l : List Row} (M : Mem W w l) {i g : Nat} {t : TypeId} {cs : Array Value} (hl : l[i]? = some (g, t, cs)) : Bk w g t cs := M.blk _ (List.mem_of_getElem? hl)
theorem Mem.call {W w w' : World} {l : List Row} (M : Mem W w l) (hb : Below w.heap.size w w') : Mem W w' l :=
  ⟨M.below.trans (hb.mono M.below.size), fun p hp => (M.blk p hp).below hb, M.base, M.nodup⟩
theorem Mem.drew {W w : World} {l : List Row} (M : Mem W w l) : Mem W w.drew l := ⟨M.below.drew, fun p hp => M.blk p hp, M.base, M.nodup⟩
theorem Mem.drewN {W w : World} {l : List Row} (M : Mem W w l) (n : Nat) : Mem W (w.drewN n) l := ⟨below_drewN M.below n, fun p hp => M.blk p hp, M.base, M.nodup⟩
theorem Mem.new {W w : World} {l : List Row} (M : Mem W w l) {g : Nat} (hg : w.heap.size = g) (t : TypeId) (cs : Array Value) : Mem W (w.alloc (.cells cs t)) (l ++ [(g, t, cs)]) := by
  refine ⟨M.below.alloc M.below.size _, ?_, ?_, ?_⟩
  · intro p hp
    rcases List.mem_append.1 hp with h | h
    · exact (M.blk p h).alloc _
    · rw [List.mem_singleton] at h; subst h; exact Bk.new w t cs hg
  · intro p hp
    rcases List.mem_append.1 hp with h | h
    · exact M.base p h
    · rw [List.mem_singleton] at h; subst h; have := M.below.size; show _ ≤ g; omega
  · rw [List.map_append, List.nodup_append]
    refine ⟨M.nodup, by simp, ?_⟩
    intro a ha b hb
    obtain ⟨p, hp, rfl⟩ := List.mem_map.1 ha
    simp only [List.map_cons, List.map_nil, List.mem_singleton] at hb
    have := (M.blk p hp).lt
    omega
theorem Mem.st {W w w' : World} {l : List Row} (M : Mem W w l) {i g : Nat} {t : TypeId} {old vs : Array Value} (hl : l[i]? = some (g, t, old)) (O : Oth g w w') (B : Bk w' g t vs) : Mem W w' (l.set i (g, t, vs)) := by
  have hlt : i < l.length := (List.getElem?_eq_some_iff.1 hl).1
  have hgi : l[i] = (g, t, old) := (List.getElem?_eq_some_iff.1 hl).2
  have hbg : W.heap.size ≤ g := M.base _ (List.mem_of_getElem? hl)
  have hmap : (l.set i (g, t, vs)).map (fun p => p.1) = l.map fun p => p.1 := by
    rw [List.map_set]
    apply List.ext_getElem?
    intro k
    rw [List.getElem?_set]
    split
    · rename_i hk; subst hk; simp [hlt, hgi]
    · rfl
  refine ⟨oth_below M.below O hbg, ?_, ?_, ?_⟩
  · intro p hp
    obtain ⟨k, hk, rfl⟩ := List.mem_iff_getElem.1 hp
    have hk' : k < l.length := by simpa using hk
    by_cases e : i = k
    · subst e; simpa using B
    · have h1 : (l.set i (g, t, vs))[k] = l[k] := by rw [List.getElem_set]; simp [e]
      rw [h1]
      refine (M.blk _ (List.getElem_mem hk')).oth O ?_
      intro h2
      have hn := M.nodup
      rw [List.nodup_iff_pairwise_ne, List.pairwise_iff_getElem] at hn
      rcases Nat.lt_or_gt_of_ne e with h3 | h3
      · exact hn i k (by simpa using hlt) (by simpa using hk') h3 (by simp [hgi, h2])
      · exact hn k i (by simpa using hk') (by simpa using hlt) h3 (by simp [hgi, h2])
  · intro p hp
    have : p.1 ∈ (l.set i (g, t, vs)).map fun p => p.1 := List.mem_map_of_mem hp
    rw [hmap] at this
    obtain ⟨q, hq, e⟩ := List.mem_map.1 this
    rw [← e]; exact M.base q hq
  · rw [hmap]; exact M.nodup

variable {ops : Array Oper} {rest : List Oper} {o : Oper} {a : Act} {Q : Exit → Act → World → Prop}
theorem wpList_want {w : World} (hw : Region.wanted o (yielded ops a.tmps) = true) (h : ∀ K : Act → World → Prop, (∀ a w, wpList Try.prog ops Q rest a w → K a w) → o.wp Try.prog a w K Q) : wpList Try.prog ops Q (o :: rest) a w :=
  wpList_step fun K hK => by rw [if_pos hw]; exact h K hK
theorem ms_row {W w : World} {l : List Row} (M : Mem W w l) (i : Nat) (ty : TypeId) (x y : Operand) (ho : o.op = .store ty x y) (hw : Region.wanted o (yielded ops a.tmps) = true)
    {g : Nat} {t : TypeId} {old : Array Value} (hl : l[i]? = some (g, t, old)) (hx : a.eval x = .pointer (some ⟨g, 0, none⟩)) (vs : Array Value) (hy : a.eval y = .agg vs)
    (hi : (Try.prog.info? ty).map (·.size) = some vs.size) (hold : old.size = vs.size) (h1 : vs.all (·.oneCell') = true) (l' : List Row) (hs : l.set i (g, t, vs) = l')
    (h : ∀ w', Mem W w' l' → wpList Try.prog ops Q rest (a.put o.dst undef) w') : wpList Try.prog ops Q (o :: rest) a w := by
  refine wpList_want hw fun K hK => ?_
  have B := M.row hl
  refine wp_store_row ty x y ho g vs hx hy t old B hi hold h1 (hK _ _ (h _ ?_))
  rw [← hs]
  exact M.st hl (Oth.setRow w g vs) (setRow_heap w g old vs t _ B)
theorem ms_cell {W w : World} {l : List Row} (M : Mem W w l) (i : Nat) (ty : TypeId) (x y : Operand) (ho : o.op = .store ty x y) (hw : Region.wanted o (yielded ops a.tmps) = true)
    {g : Nat} {t : TypeId} {old : Array Value} (hl : l[i]? = some (g, t, old)) (j : Nat) (hx : a.eval x = .pointer (some ⟨g, j, none⟩)) (v : Value) (hy : a.eval y = v)
    (hi : (Try.prog.info? ty).map (·.size) = some 1) (hlt : decide (j < old.size) = true) (h1 : v.oneCell' = true) (hc : v.cells = #[v]) (new : Array Value) (hn : old.setIfInBounds j v = new)
    (l' : List Row) (hs : l.set i (g, t, new) = l')
    (h : ∀ w', Mem W w' l' → wpList Try.prog ops Q rest (a.put o.dst undef) w') : wpList Try.prog ops Q (o :: rest) a w := by
  refine wpList_want hw fun K hK => ?_
  have B := M.row hl
  unfold Oper.wp execOp
  simp only [ho, hx, hy, Instr.storeAt, Instr.sureAddr, Sem.run_bind, Sem.run_pure, Result.andThen_ok, run_storeVar_one w g j t ty old v B hi (of_decide_eq_true hlt) h1 hc]
  refine hK _ _ (h _ ?_)
  rw [← hs]
  refine M.st hl (Oth.setRow w g _) ?_
  rw [hn]
  exact setRow_heap w g old new t _ B
theorem Mem.alloc {W w : World} {l : List Row} (M : Mem W w l) (o : Obj) : Mem W (w.alloc o) l :=
  ⟨M.below.alloc M.below.size _, fun p hp => (M.blk p hp).alloc _, M.base, M.nodup⟩
theorem Mem.init {W w : World} {l r : List Row} (M : Mem W w (l ++ r)) : Mem W w l :=
  ⟨M.below, fun p hp => M.blk p (List.mem_append_left _ hp), fun p hp => M.base p (List.mem_append_left _ hp), by
    have h := M.nodup; rw [List.map_append, List.nodup_append] at h; exact h.1⟩
theorem Mem.two (W : World) (t0 t1 : TypeId) (c0 c1 : Array Value) : Mem W ((W.alloc (.cells c0 t0)).alloc (.cells c1 t1)) [(W.heap.size, t0, c0), (W.heap.size + 1, t1, c1)] :=
  ((Mem.start W).new rfl t0 c0).new (by simp) t1 c1
theorem Mem.three (W : World) (t0 t1 t2 : TypeId) (c0 c1 c2 : Array Value) : Mem W (((W.alloc (.cells c0 t0)).alloc (.cells c1 t1)).alloc (.cells c2 t2)) [(W.heap.size, t0, c0), (W.heap.size + 1, t1, c1), (W.heap.size + 1 + 1, t2, c2)] :=
  (Mem.two W t0 t1 c0 c1).new (by simp) t2 c2
theorem yi_part {W : World} {l : List Row} (i : Nat) (ty : TypeId) (x : Operand) (ho : o.op = .load ty x) (hw : Region.wanted o (yielded ops a.tmps) = true)
    {g : Nat} {t : TypeId} {cs : Array Value} (hl : l[i]? = some (g, t, cs)) (off : Nat) (hx : a.eval x = .pointer (some ⟨g, off, none⟩)) (vs : Array Value) {d : TypeDesc}
    (hu : Try.prog.underlying ty = some d) (hd : aggD d = true) (hi : (Try.prog.info? ty).map (·.size) = some vs.size) (hv : (cs.toList.drop off).take vs.size = vs.toList) :
    YieldsIf Try.prog ops (fun w' => Mem W w' l) o (.agg vs) a := by
  refine .inl ⟨hw, fun w M => ?_⟩
  unfold execOp
  simp only [ho, hx, Instr.loadAt, Instr.sureAddr, Sem.run_bind, Sem.run_pure, Result.andThen_ok, run_loadVar_part w g off t ty cs vs d (Mem.row M hl) hu hd hi hv]
theorem yi_row {W : World} {l : List Row} (i : Nat) (ty : TypeId) (x : Operand) (ho : o.op = .load ty x) (hw : Region.wanted o (yielded ops a.tmps) = true)
    {g : Nat} {t : TypeId} {cs : Array Value} (hl : l[i]? = some (g, t, cs)) (hx : a.eval x = .pointer (some ⟨g, 0, none⟩)) {d : TypeDesc}
    (hu : Try.prog.underlying ty = some d) (hd : aggD d = true) (hi : (Try.prog.info? ty).map (·.size) = some cs.size) :
    YieldsIf Try.prog ops (fun w' => Mem W w' l) o (.agg cs) a :=
  yi_part i ty x ho hw hl 0 hx cs hu hd hi (by rw [List.drop_zero]; exact List.take_of_length_le (by simp))
theorem yi_cell {W : World} {l : List Row} (i : Nat) (ty : TypeId) (x : Operand) (ho : o.op = .load ty x) (hw : Region.wanted o (yielded ops a.tmps) = true)
    {g : Nat} {t : TypeId} {cs : Array Value} (hl : l[i]? = some (g, t, cs)) (j : Nat) (hx : a.eval x = .pointer (some ⟨g, j, none⟩)) (v : Value) {d : TypeDesc} (hu : Try.prog.underlying ty = some d) (hd : aggD d = false) (hv : cs[j]? = some v) :
    YieldsIf Try.prog ops (fun w' => Mem W w' l) o v a := by
  refine .inl ⟨hw, fun w M => ?_⟩
  have hcell := (Mem.row M hl).cell hv
  have hagg : (isAgg ty).run Try.prog w = .ok false w := by
    unfold isAgg
    rw [Sem.run_bind, run_underlying hu w]
    cases d <;> simp_all [aggD]
  unfold execOp
  simp only [ho, hx, Instr.loadAt, Instr.sureAddr, Sem.run_bind, Sem.run_pure, Result.andThen_ok, loadVar, hagg]
  simp [run_load, hcell]
theorem ws_new {W w : World} {l : List Row} (M : Mem W w l) (i : Nat) {K : Act → World → Prop} {Q : Exit → Act → World → Prop} (ty : TypeId) (x y : Operand) (ho : o.op = .store ty x y)
    {g : Nat} {t : TypeId} {old : Array Value} (hl : l[i]? = some (g, t, old)) (hx : a.eval x = .pointer (some ⟨g, 0, none⟩)) (vs : Array Value) (hy : a.eval y = .agg vs)
    (hi : (Try.prog.info? ty).map (·.size) = some vs.size) (hold : old.size = vs.size) (h1 : vs.all (·.oneCell') = true) (l' : List Row) (hs : l.set i (g, t, vs) = l')
    (h : ∀ w', Mem W w' l' → K (a.put o.dst undef) w') : o.wp Try.prog a w K Q := by
  have B := M.row hl
  refine wp_store_row ty x y ho g vs hx hy t old B hi hold h1 (h _ ?_)
  rw [← hs]
  exact M.st hl (Oth.setRow w g vs) (setRow_heap w g old vs t _ B)
theorem results_cell {fn : Func} {p : Tmp} {ty : TypeId} (h : fn.results = #[.cell p ty]) {tmps : Array Value} {w : World} {g : Nat} {t : TypeId} {cs : Array Value} (hg : Bk w g t cs) {d : TypeDesc}
    (hp : tmps.getD p undef = .pointer (some ⟨g, 0, none⟩))
    (hu : Try.prog.underlying ty = some d) (hd : aggD d = true) (hi : (Try.prog.info? ty).map (·.size) = some cs.size) :
    (results fn tmps).run Try.prog w = .ok (.agg cs) w := by
  have hp' : tmps[p]?.getD undef = .pointer (some ⟨g, 0, none⟩) := by simpa using hp
  simp [results, h, hp', asAddr, run_loadVar_part w g 0 t ty cs cs d hg hu hd hi (by rw [List.drop_zero]; exact List.take_of_length_le (by simp))]

section
variable {ops : Array Oper} {Q : Exit → Act → World → Prop} {md : Region.Mode} {S : World → Prop} {i fuel : Nat} {oi : Oper} {rs : List Nat} {listed : Array Bool} {a : Act} {w : World}
theorem tk (hi : ops[i]? = some oi) (dst : Option Tmp) (hd : oi.dst = dst) {v : Value}
    (hs : Region.noSelect ops = true) (hf : Region.free md ops listed i = true) (hr : (Region.ready md ops listed).contains i = true)
    (hQ : ∀ c a w, Q (.panic c) (a.put oi.dst v) w → Q (.panic c) a w) (hy : YieldsIf Try.prog ops S oi v a) (hS : S w)
    (h : wpAnyH Try.prog md ops Q S fuel (listed.setIfInBounds i true) (a.put dst v) w) : wpAnyH Try.prog md ops Q S (fuel + 1) listed a w := by
  subst hd
  exact wpAnyH_take hi hs hf hr hQ hy hS h
theorem br_callR (ho : ops[i]? = some oi) (hw : Region.wanted oi (yielded ops a.tmps) = true) (dst : Option Tmp) (hd : oi.dst = dst) {f : FuncId} {args : Array Value} {R : Ending → World → Prop}
    (hc : Calls Try.prog f args w R) (hrun : (execOp a.eval oi).run Try.prog w = .ok (.enter f args) w)
    (h : ∀ e w', R e w' → ∃ v, e = .returned v ∧ S w' ∧ wpAnyH Try.prog md ops Q S fuel (listed.setIfInBounds i true) (a.put dst v) w')
    (hs : AllReadyH Try.prog md ops Q S fuel listed a w rs) : AllReadyH Try.prog md ops Q S fuel listed a w (i :: rs) := by
  refine AllReadyH.cons ho (fun K hK => ?_) hs
  rw [if_pos hw]
  unfold Oper.wp
  rw [hrun]
  refine hc.mono ?_
  intro e w' hR
  obtain ⟨v, rfl, hS, h2⟩ := h e w' hR
  subst hd
  exact hK.out _ _ hS (fun _ => h2)
theorem br_call (ho : ops[i]? = some oi) (hw : Region.wanted oi (yielded ops a.tmps) = true) (dst : Option Tmp) (hd : oi.dst = dst) {f : FuncId} {args : Array Value} {v : Value}
    (hc : Calls Try.prog f args w fun e w' => e = .returned v ∧ Below w.heap.size w w') (hrun : (execOp a.eval oi).run Try.prog w = .ok (.enter f args) w)
    (hS : ∀ w', Below w.heap.size w w' → S w')
    (h : ∀ w', Below w.heap.size w w' → wpAnyH Try.prog md ops Q S fuel (listed.setIfInBounds i true) (a.put dst v) w')
    (hs : AllReadyH Try.prog md ops Q S fuel listed a w rs) : AllReadyH Try.prog md ops Q S fuel listed a w (i :: rs) := by
  refine AllReadyH.cons ho (fun K hK => ?_) hs
  rw [if_pos hw]
  unfold Oper.wp
  rw [hrun]
  refine hc.mono ?_
  rintro e w' ⟨rfl, hb⟩
  subst hd
  exact hK.out _ _ (hS w' hb) (fun _ => h w' hb)
theorem br_alloc (ho : ops[i]? = some oi) (hw : Region.wanted oi (yielded ops a.tmps) = true) (dst : Option Tmp) (hd : oi.dst = dst) (cs : Array Value) (t : TypeId)
    (hrun : (execOp a.eval oi).run Try.prog w = .ok (.value (.pointer (some ⟨w.heap.size, 0, none⟩))) (w.alloc (.cells cs t)))
    (hS : S (w.alloc (.cells cs t)))
    (h : wpAnyH Try.prog md ops Q S fuel (listed.setIfInBounds i true) (a.put dst (.pointer (some ⟨w.heap.size, 0, none⟩))) (w.alloc (.cells cs t)))
    (hs : AllReadyH Try.prog md ops Q S fuel listed a w rs) : AllReadyH Try.prog md ops Q S fuel listed a w (i :: rs) := by
  refine AllReadyH.cons ho (fun K hK => ?_) hs
  rw [if_pos hw]
  unfold Oper.wp
  rw [hrun]
  subst hd
  exact hK.out _ _ hS (fun _ => h)
theorem br_store {W : World} {l : List Row} (M : Mem W w l) (k : Nat) (ho : ops[i]? = some oi) (hw : Region.wanted oi (yielded ops a.tmps) = true) (ty : TypeId) (x y : Operand) (hop : oi.op = .store ty x y) (hd : oi.dst = none)
    {g : Nat} {t : TypeId} {old : Array Value} (hl : l[k]? = some (g, t, old)) (hx : a.eval x = .pointer (some ⟨g, 0, none⟩)) (vs : Array Value) (hy : a.eval y = .agg vs)
    (hi : (Try.prog.info? ty).map (·.size) = some vs.size) (hold : old.size = vs.size) (h1 : vs.all (·.oneCell') = true) (l' : List Row) (hs' : l.set k (g, t, vs) = l')
    (hS : ∀ w', Mem W w' l' → S w')
    (h : ∀ w', Mem W w' l' → wpAnyH Try.prog md ops Q S fuel (listed.setIfInBounds i true) a w')
    (hs : AllReadyH Try.prog md ops Q S fuel listed a w rs) : AllReadyH Try.prog md ops Q S fuel listed a w (i :: rs) := by
  refine AllReadyH.cons ho (fun K hK => ?_) hs
  rw [if_pos hw]
  refine ws_new M k ty x y hop hl hx vs hy hi hold h1 l' hs' (fun w' M' => ?_)
  rw [hd]
  exact hK.out _ _ (hS w' M') (fun _ => h w' M')
end

section
variable {ops : Array Oper} {Q : Exit → Act → World → Prop} {o : Oper} {rest : List Oper} {a : Act} {w : World}
theorem lv (hw : Region.wanted o (yielded ops a.tmps) = true) (dst : Option Tmp) (hd : o.dst = dst) {v : Value} (hrun : (execOp a.eval o).run Try.prog w = .ok (.value v) w)
    (h : wpList Try.prog ops Q rest (a.put dst v) w) : wpList Try.prog ops Q (o :: rest) a w := by
  refine wpList_want hw fun K hK => ?_
  subst hd
  unfold Oper.wp; rw [hrun]
  exact hK _ _ h
theorem lu (hw : Region.wanted o (yielded ops a.tmps) = false) (dst : Option Tmp) (hd : o.dst = dst)
    (h : wpList Try.prog ops Q rest (a.put dst undef) w) : wpList Try.prog ops Q (o :: rest) a w := by
  subst hd
  exact wpList_step fun K hK => by rw [if_neg (by rw [hw]; decide)]; exact hK _ _ h
theorem ly {W : World} {l : List Row} (M : Mem W w l) (dst : Option Tmp) (hd : o.dst = dst) {v : Value} (hy : YieldsIf Try.prog ops (fun w' => Mem W w' l) o v a)
    (h : wpList Try.prog ops Q rest (a.put dst v) w) : wpList Try.prog ops Q (o :: rest) a w := by
  rcases hy with ⟨hw, hv⟩ | ⟨hw, rfl⟩
  · exact lv hw dst hd (hv w M) h
  · exact lu hw dst hd h
theorem l_same (hw : Region.wanted o (yielded ops a.tmps) = true) (dst : Option Tmp) (hd : o.dst = dst) {f : FuncId} {args : Array Value} {v : Value}
    (hc : Calls Try.prog f args w fun e w' => e = .returned v ∧ w = w') (hrun : (execOp a.eval o).run Try.prog w = .ok (.enter f args) w)
    (h : wpList Try.prog ops Q rest (a.put dst v) w) : wpList Try.prog ops Q (o :: rest) a w := by
  refine wpList_want hw fun K hK => ?_
  unfold Oper.wp; rw [hrun]
  refine hc.mono ?_
  rintro e w' ⟨rfl, rfl⟩
  subst hd
  exact hK _ _ h
theorem l_call (hw : Region.wanted o (yielded ops a.tmps) = true) (dst : Option Tmp) (hd : o.dst = dst) {f : FuncId} {args : Array Value} {v : Value}
    (hc : Calls Try.prog f args w fun e w' => e = .returned v ∧ Below w.heap.size w w') (hrun : (execOp a.eval o).run Try.prog w = .ok (.enter f args) w)
    (h : ∀ w', Below w.heap.size w w' → wpList Try.prog ops Q rest (a.put dst v) w') : wpList Try.prog ops Q (o :: rest) a w := by
  refine wpList_want hw fun K hK => ?_
  unfold Oper.wp; rw [hrun]
  refine hc.mono ?_
  rintro e w' ⟨rfl, hb⟩
  subst hd
  exact hK _ _ (h w' hb)
theorem l_alloc (hw : Region.wanted o (yielded ops a.tmps) = true) (dst : Option Tmp) (hd : o.dst = dst) (cs : Array Value) (t : TypeId)
    (hrun : (execOp a.eval o).run Try.prog w = .ok (.value (.pointer (some ⟨w.heap.size, 0, none⟩))) (w.alloc (.cells cs t)))
    (h : wpList Try.prog ops Q rest (a.put dst (.pointer (some ⟨w.heap.size, 0, none⟩))) (w.alloc (.cells cs t))) : wpList Try.prog ops Q (o :: rest) a w := by
  refine wpList_want hw fun K hK => ?_
  unfold Oper.wp; rw [hrun]
  subst hd
  exact hK _ _ h
theorem l_store {W : World} {l : List Row} (M : Mem W w l) (k : Nat) (hw : Region.wanted o (yielded ops a.tmps) = true) (ty : TypeId) (x y : Operand) (hop : o.op = .store ty x y) (hd : o.dst = none)
    {g : Nat} {t : TypeId} {old : Array Value} (hl : l[k]? = some (g, t, old)) (hx : a.eval x = .pointer (some ⟨g, 0, none⟩)) (vs : Array Value) (hy : a.eval y = .agg vs)
    (hi : (Try.prog.info? ty).map (·.size) = some vs.size) (hold : old.size = vs.size) (h1 : vs.all (·.oneCell') = true) (l' : List Row) (hs' : l.set k (g, t, vs) = l')
    (h : ∀ w', Mem W w' l' → wpList Try.prog ops Q rest a w') : wpList Try.prog ops Q (o :: rest) a w := by
  refine ms_row M k ty x y hop hw hl hx vs hy hi hold h1 l' hs' fun w' M' => ?_
  rw [hd]; exact h w' M'
theorem l_cell {W : World} {l : List Row} (M : Mem W w l) (k : Nat) (hw : Region.wanted o (yielded ops a.tmps) = true) (ty : TypeId) (x y : Operand) (hop : o.op = .store ty x y) (hd : o.dst = none)
    {g : Nat} {t : TypeId} {old : Array Value} (hl : l[k]? = some (g, t, old)) (j : Nat) (hx : a.eval x = .pointer (some ⟨g, j, none⟩)) (v : Value) (hy : a.eval y = v)
    (hi : (Try.prog.info? ty).map (·.size) = some 1) (hlt : decide (j < old.size) = true) (h1 : v.oneCell' = true) (hc : v.cells = #[v]) (new : Array Value) (hn : old.setIfInBounds j v = new)
    (l' : List Row) (hs' : l.set k (g, t, new) = l')
    (h : ∀ w', Mem W w' l' → wpList Try.prog ops Q rest a w') : wpList Try.prog ops Q (o :: rest) a w := by
  refine ms_cell M k ty x y hop hw hl j hx v hy hi hlt h1 hc new hn l' hs' fun w' M' => ?_
  rw [hd]; exact h w' M'
end

end Go.Proofs.Ytcppckpkiloilaa
