/-
  Contract of embed.Inside. Conditions stand in each statement.
-/
import Derived.Test.YtafonnelennlhaaA
import Derived.Deep.QuietTactic
import Derived.BigQuiet
import Derived.RegionTactic
import Derived.Laws.BytesArg
import Derived.Lib.Strings
namespace Go.Proofs.Ytafonnelennlhaa
open Go.RowKit

/-- Block g holds just these cells, none frozen. -/
def Blk (w : World) (g : Nat) (t : TypeId) (cs : Array Value) : Prop := w.heap[g]? = some (.cells cs t)
theorem Blk.lt {w : World} {g : Nat} {t : TypeId} {cs : Array Value} (h : Blk w g t cs) : g < w.heap.size := (Array.getElem?_eq_some_iff.1 h).1
theorem Blk.new (w : World) (t : TypeId) (cs : Array Value) {g : Nat} (hg : w.heap.size = g) : Blk (w.alloc (.cells cs t)) g t cs := by subst hg; exact (MapKept.heap_alloc w _).1
theorem Blk.alloc {w : World} {g : Nat} {t : TypeId} {cs : Array Value} (h : Blk w g t cs) (o : Obj) : Blk (w.alloc o) g t cs := (Below.heap_alloc w o g h.lt).trans h
theorem Blk.below {W w' : World} {g : Nat} {t : TypeId} {cs : Array Value} (h : Blk W g t cs) (hb : Below W.heap.size W w') : Blk w' g t cs := (hb.block g h.lt).trans h
theorem Blk.drew {w : World} {g : Nat} {t : TypeId} {cs : Array Value} (h : Blk w g t cs) : Blk w.drew g t cs := h
theorem Blk.cell {w : World} {g : Nat} {t : TypeId} {cs : Array Value} (h : Blk w g t cs) {i : Nat} {v : Value} (hi : cs[i]? = some v) : w.cell? ⟨g, i, none⟩ = some v := by
  unfold World.cell?
  rw [show w.heap[g]? = some (.cells cs t) from h]
  exact hi

theorem ret_b {a b : Bool} (h : a = b) : Ending.returned (.bool a) = Ending.returned (.bool b) := by rw [h]
theorem conv_of {W : World} {g : Nat} {t : TypeId} {cs : Array Value} (B : Blk W g t cs) (c : Nat) (xs : List Int) (h : ∀ i, i < xs.length → cs[i]? = some (.int .u8 (xs.getD i 0))) :
    ∀ W' : World, W'.heap = W.heap → (convert 27 9 (.slice (some ⟨g, 0, none⟩) xs.length c)).run Try.prog W' = .ok (.string (strOfNums xs)) W' := by
  intro W' hW
  have B' : Blk W' g t cs := by unfold Blk; rw [hW]; exact B
  exact run_convert_bytes_arg W' 27 5 Try.underlying27 Try.underlying5 g 0 _ c xs rfl (fun i hi => by rw [Nat.zero_add]; exact B'.cell (h i hi)) 9 Try.underlying9

/-- Bytes are bytes. -/
def Bytes (k : Nat) (P : Nat → Int) : Prop := ∀ j : Nat, j < k → 0 ≤ P j ∧ P j < 256
def EqTo (P X : Nat → Int) (m : Nat) : Prop := ∀ j : Nat, j < m → P j = X j
theorem map_eq_iff (P X : Nat → Int) (m : Nat) : (List.range m).map P = (List.range m).map X ↔ EqTo P X m := by
  constructor
  · intro h j hj
    have := congrArg (fun l => l[j]?) h
    simpa [hj] using this
  · intro h
    exact List.map_congr_left fun j hj => h j (List.mem_range.1 hj)
theorem nums_inj : ∀ (xs ys : List Int), (∀ x ∈ xs, 0 ≤ x ∧ x < 256) → (∀ y ∈ ys, 0 ≤ y ∧ y < 256) → xs.map (fun n => UInt8.ofNat n.toNat) = ys.map (fun n => UInt8.ofNat n.toNat) → xs = ys
  | [], [], _, _, _ => rfl
  | [], _ :: _, _, _, h => by cases h
  | _ :: _, [], _, _, h => by cases h
  | x :: xs, y :: ys, hx, hy, h => by
    simp only [List.map_cons, List.cons.injEq] at h
    have h1 := hx x (by simp)
    have h2 := hy y (by simp)
    have h3 := congrArg UInt8.toNat h.1
    simp only [UInt8.toNat_ofNat'] at h3
    have e : x = y := by omega
    rw [e, nums_inj xs ys (fun z hz => hx z (by simp [hz])) (fun z hz => hy z (by simp [hz])) h.2]
theorem strs_eq (P X : Nat → Int) (m : Nat) (hm : m ≤ 16) (bp : Bytes 16 P) (bx : Bytes 16 X) :
    ((strOfNums ((List.range m).map P)).toList == (strOfNums ((List.range m).map X)).toList) = true ↔ EqTo P X m := by
  have e : ∀ l : List Int, (strOfNums l).toList = l.map fun n => UInt8.ofNat n.toNat := fun l => by
    rw [Lib.toList_data]; exact strOfNums_data l
  rw [beq_iff_eq, e, e, ← map_eq_iff]
  constructor
  · intro h
    refine nums_inj _ _ (fun x hx => ?_) (fun x hx => ?_) h
    · obtain ⟨j, hj, rfl⟩ := List.mem_map.1 hx
      exact bp j (by have := List.mem_range.1 hj; omega)
    · obtain ⟨j, hj, rfl⟩ := List.mem_map.1 hx
      exact bx j (by have := List.mem_range.1 hj; omega)
  · intro h; rw [h]

set_option maxHeartbeats 4000000 in
theorem inside_f (P X : Nat → Int) (n : Int) (w : World) (h : ¬ RightP P n) : Calls Try.prog 19 #[net P n, .agg (a16 X)] w fun e w' => e = .returned (.bool false) ∧ Below w.heap.size w w' := by
  have c15 := fun w => right_f P n w h
  clear h
  go_enter Try.func19, Try.ntmps19
  go_wp2_with (first | (go_at_call 15; (with_reducible refine (c15 _).mono ?_); rintro e w1 ⟨rfl, hb1⟩) | (refine wpList_load_row rfl 26 (.tmp 2) rfl _ rfl 26 _ (0, 0) _ ((Blk.new w 26 _ rfl).alloc _) Try.underlying26 rfl (by kernel_rfl) ?_))
  go_ret
  exact ⟨rfl, (((Below.refl _ _).alloc (Nat.le_refl _) _).alloc (by simp) _).trans (hb1.mono (by simp; omega))⟩
set_option maxHeartbeats 4000000 in
theorem inside_32 (P X : Nat → Int) (w : World) (h : RightP P 32) (bp : Bytes 16 P) (bx : Bytes 16 X) (r : Bool) (hr : r = true ↔ EqTo P X 4) :
    Calls Try.prog 19 #[net P 32, .agg (a16 X)] w fun e w' => e = .returned (.bool r) ∧ Below w.heap.size w w' := by
  have c15 := fun w => right_t P 32 w h
  have hs : ((strOfNums [P 0, P 1, P 2, P 3]).toList == (strOfNums [X 0, X 1, X 2, X 3]).toList) = r := by
    have h1 := strs_eq P X 4 (by omega) bp bx
    rw [← hr] at h1
    exact Bool.eq_iff_iff.2 h1
  clear h hr
  go_enter Try.func19, Try.ntmps19
  go_wp2_with (first | (go_at_call 15; (with_reducible refine (c15 _).mono ?_); rintro e w1 ⟨rfl, hb1⟩; have B0 := ((Blk.new w _ _ rfl).alloc _).below hb1; have B1 := (Blk.new _ _ _ (by simp : _ = w.heap.size + 1)).below hb1; have q0 : w1.cell? ⟨w.heap.size, 16, none⟩ = some (.int .i64 32) := B0.cell rfl) | (refine wpList_load_row rfl 26 (.tmp 2) rfl _ rfl 26 _ (0, 0) _ ((Blk.new w 26 _ rfl).alloc _) Try.underlying26 rfl (by kernel_rfl) ?_))
  have v0 := conv_of B0 16 [P 0, P 1, P 2, P 3] (by intro i hi; match i, hi with | 0, _ => rfl | 1, _ => rfl | 2, _ => rfl | 3, _ => rfl)
  have v1 := conv_of B1 16 [X 0, X 1, X 2, X 3] (by intro i hi; match i, hi with | 0, _ => rfl | 1, _ => rfl | 2, _ => rfl | 3, _ => rfl)
  have HB : Below w.heap.size w w1 := (((Below.refl _ _).alloc (Nat.le_refl _) _).alloc (by simp) _).trans (hb1.mono (by simp; omega))
  clear B0 B1 hb1
  have v0 : ∀ k, (convert 27 9 (.slice (some ⟨w.heap.size, 0, none⟩) 4 16)).run Try.prog (w1.drewN k) = .ok (.string (strOfNums [P 0, P 1, P 2, P 3])) (w1.drewN k) := fun k => v0 (w1.drewN k) rfl
  have v1 : ∀ k, (convert 27 9 (.slice (some ⟨w.heap.size + 1, 0, none⟩) 4 16)).run Try.prog (w1.drewN k) = .ok (.string (strOfNums [X 0, X 1, X 2, X 3])) (w1.drewN k) := fun k => v1 (w1.drewN k) rfl
  go_quiet (fail)
  go_wp2
  go_ret
  exact ⟨rfl, below_drewN HB _⟩
set_option maxHeartbeats 4000000 in
theorem inside_40 (P X : Nat → Int) (w : World) (h : RightP P 40) (bp : Bytes 16 P) (bx : Bytes 16 X) (r : Bool) (hr : r = true ↔ EqTo P X 5) :
    Calls Try.prog 19 #[net P 40, .agg (a16 X)] w fun e w' => e = .returned (.bool r) ∧ Below w.heap.size w w' := by
  have c15 := fun w => right_t P 40 w h
  have hs : ((strOfNums [P 0, P 1, P 2, P 3, P 4]).toList == (strOfNums [X 0, X 1, X 2, X 3, X 4]).toList) = r := by
    have h1 := strs_eq P X 5 (by omega) bp bx
    rw [← hr] at h1
    exact Bool.eq_iff_iff.2 h1
  clear h hr
  go_enter Try.func19, Try.ntmps19
  go_wp2_with (first | (go_at_call 15; (with_reducible refine (c15 _).mono ?_); rintro e w1 ⟨rfl, hb1⟩; have B0 := ((Blk.new w _ _ rfl).alloc _).below hb1; have B1 := (Blk.new _ _ _ (by simp : _ = w.heap.size + 1)).below hb1; have q0 : w1.cell? ⟨w.heap.size, 16, none⟩ = some (.int .i64 40) := B0.cell rfl) | (refine wpList_load_row rfl 26 (.tmp 2) rfl _ rfl 26 _ (0, 0) _ ((Blk.new w 26 _ rfl).alloc _) Try.underlying26 rfl (by kernel_rfl) ?_))
  have v0 := conv_of B0 16 [P 0, P 1, P 2, P 3, P 4] (by intro i hi; match i, hi with | 0, _ => rfl | 1, _ => rfl | 2, _ => rfl | 3, _ => rfl | 4, _ => rfl)
  have v1 := conv_of B1 16 [X 0, X 1, X 2, X 3, X 4] (by intro i hi; match i, hi with | 0, _ => rfl | 1, _ => rfl | 2, _ => rfl | 3, _ => rfl | 4, _ => rfl)
  have HB : Below w.heap.size w w1 := (((Below.refl _ _).alloc (Nat.le_refl _) _).alloc (by simp) _).trans (hb1.mono (by simp; omega))
  clear B0 B1 hb1
  have v0 : ∀ k, (convert 27 9 (.slice (some ⟨w.heap.size, 0, none⟩) 5 16)).run Try.prog (w1.drewN k) = .ok (.string (strOfNums [P 0, P 1, P 2, P 3, P 4])) (w1.drewN k) := fun k => v0 (w1.drewN k) rfl
  have v1 : ∀ k, (convert 27 9 (.slice (some ⟨w.heap.size + 1, 0, none⟩) 5 16)).run Try.prog (w1.drewN k) = .ok (.string (strOfNums [X 0, X 1, X 2, X 3, X 4])) (w1.drewN k) := fun k => v1 (w1.drewN k) rfl
  go_quiet (fail)
  go_wp2
  go_ret
  exact ⟨rfl, below_drewN HB _⟩
set_option maxHeartbeats 4000000 in
theorem inside_48 (P X : Nat → Int) (w : World) (h : RightP P 48) (bp : Bytes 16 P) (bx : Bytes 16 X) (r : Bool) (hr : r = true ↔ EqTo P X 6) :
    Calls Try.prog 19 #[net P 48, .agg (a16 X)] w fun e w' => e = .returned (.bool r) ∧ Below w.heap.size w w' := by
  have c15 := fun w => right_t P 48 w h
  have hs : ((strOfNums [P 0, P 1, P 2, P 3, P 4, P 5]).toList == (strOfNums [X 0, X 1, X 2, X 3, X 4, X 5]).toList) = r := by
    have h1 := strs_eq P X 6 (by omega) bp bx
    rw [← hr] at h1
    exact Bool.eq_iff_iff.2 h1
  clear h hr
  go_enter Try.func19, Try.ntmps19
  go_wp2_with (first | (go_at_call 15; (with_reducible refine (c15 _).mono ?_); rintro e w1 ⟨rfl, hb1⟩; have B0 := ((Blk.new w _ _ rfl).alloc _).below hb1; have B1 := (Blk.new _ _ _ (by simp : _ = w.heap.size + 1)).below hb1; have q0 : w1.cell? ⟨w.heap.size, 16, none⟩ = some (.int .i64 48) := B0.cell rfl) | (refine wpList_load_row rfl 26 (.tmp 2) rfl _ rfl 26 _ (0, 0) _ ((Blk.new w 26 _ rfl).alloc _) Try.underlying26 rfl (by kernel_rfl) ?_))
  have v0 := conv_of B0 16 [P 0, P 1, P 2, P 3, P 4, P 5] (by intro i hi; match i, hi with | 0, _ => rfl | 1, _ => rfl | 2, _ => rfl | 3, _ => rfl | 4, _ => rfl | 5, _ => rfl)
  have v1 := conv_of B1 16 [X 0, X 1, X 2, X 3, X 4, X 5] (by intro i hi; match i, hi with | 0, _ => rfl | 1, _ => rfl | 2, _ => rfl | 3, _ => rfl | 4, _ => rfl | 5, _ => rfl)
  have HB : Below w.heap.size w w1 := (((Below.refl _ _).alloc (Nat.le_refl _) _).alloc (by simp) _).trans (hb1.mono (by simp; omega))
  clear B0 B1 hb1
  have v0 : ∀ k, (convert 27 9 (.slice (some ⟨w.heap.size, 0, none⟩) 6 16)).run Try.prog (w1.drewN k) = .ok (.string (strOfNums [P 0, P 1, P 2, P 3, P 4, P 5])) (w1.drewN k) := fun k => v0 (w1.drewN k) rfl
  have v1 : ∀ k, (convert 27 9 (.slice (some ⟨w.heap.size + 1, 0, none⟩) 6 16)).run Try.prog (w1.drewN k) = .ok (.string (strOfNums [X 0, X 1, X 2, X 3, X 4, X 5])) (w1.drewN k) := fun k => v1 (w1.drewN k) rfl
  go_quiet (fail)
  go_wp2
  go_ret
  exact ⟨rfl, below_drewN HB _⟩
set_option maxHeartbeats 4000000 in
theorem inside_56 (P X : Nat → Int) (w : World) (h : RightP P 56) (bp : Bytes 16 P) (bx : Bytes 16 X) (r : Bool) (hr : r = true ↔ EqTo P X 7) :
    Calls Try.prog 19 #[net P 56, .agg (a16 X)] w fun e w' => e = .returned (.bool r) ∧ Below w.heap.size w w' := by
  have c15 := fun w => right_t P 56 w h
  have hs : ((strOfNums [P 0, P 1, P 2, P 3, P 4, P 5, P 6]).toList == (strOfNums [X 0, X 1, X 2, X 3, X 4, X 5, X 6]).toList) = r := by
    have h1 := strs_eq P X 7 (by omega) bp bx
    rw [← hr] at h1
    exact Bool.eq_iff_iff.2 h1
  clear h hr
  go_enter Try.func19, Try.ntmps19
  go_wp2_with (first | (go_at_call 15; (with_reducible refine (c15 _).mono ?_); rintro e w1 ⟨rfl, hb1⟩; have B0 := ((Blk.new w _ _ rfl).alloc _).below hb1; have B1 := (Blk.new _ _ _ (by simp : _ = w.heap.size + 1)).below hb1; have q0 : w1.cell? ⟨w.heap.size, 16, none⟩ = some (.int .i64 56) := B0.cell rfl) | (refine wpList_load_row rfl 26 (.tmp 2) rfl _ rfl 26 _ (0, 0) _ ((Blk.new w 26 _ rfl).alloc _) Try.underlying26 rfl (by kernel_rfl) ?_))
  have v0 := conv_of B0 16 [P 0, P 1, P 2, P 3, P 4, P 5, P 6] (by intro i hi; match i, hi with | 0, _ => rfl | 1, _ => rfl | 2, _ => rfl | 3, _ => rfl | 4, _ => rfl | 5, _ => rfl | 6, _ => rfl)
  have v1 := conv_of B1 16 [X 0, X 1, X 2, X 3, X 4, X 5, X 6] (by intro i hi; match i, hi with | 0, _ => rfl | 1, _ => rfl | 2, _ => rfl | 3, _ => rfl | 4, _ => rfl | 5, _ => rfl | 6, _ => rfl)
  have HB : Below w.heap.size w w1 := (((Below.refl _ _).alloc (Nat.le_refl _) _).alloc (by simp) _).trans (hb1.mono (by simp; omega))
  clear B0 B1 hb1
  have v0 : ∀ k, (convert 27 9 (.slice (some ⟨w.heap.size, 0, none⟩) 7 16)).run Try.prog (w1.drewN k) = .ok (.string (strOfNums [P 0, P 1, P 2, P 3, P 4, P 5, P 6])) (w1.drewN k) := fun k => v0 (w1.drewN k) rfl
  have v1 : ∀ k, (convert 27 9 (.slice (some ⟨w.heap.size + 1, 0, none⟩) 7 16)).run Try.prog (w1.drewN k) = .ok (.string (strOfNums [X 0, X 1, X 2, X 3, X 4, X 5, X 6])) (w1.drewN k) := fun k => v1 (w1.drewN k) rfl
  go_quiet (fail)
  go_wp2
  go_ret
  exact ⟨rfl, below_drewN HB _⟩
set_option maxHeartbeats 4000000 in
theorem inside_64 (P X : Nat → Int) (w : World) (h : RightP P 64) (bp : Bytes 16 P) (bx : Bytes 16 X) (r : Bool) (hr : r = true ↔ EqTo P X 8) :
    Calls Try.prog 19 #[net P 64, .agg (a16 X)] w fun e w' => e = .returned (.bool r) ∧ Below w.heap.size w w' := by
  have c15 := fun w => right_t P 64 w h
  have hs : ((strOfNums [P 0, P 1, P 2, P 3, P 4, P 5, P 6, P 7]).toList == (strOfNums [X 0, X 1, X 2, X 3, X 4, X 5, X 6, X 7]).toList) = r := by
    have h1 := strs_eq P X 8 (by omega) bp bx
    rw [← hr] at h1
    exact Bool.eq_iff_iff.2 h1
  clear h hr
  go_enter Try.func19, Try.ntmps19
  go_wp2_with (first | (go_at_call 15; (with_reducible refine (c15 _).mono ?_); rintro e w1 ⟨rfl, hb1⟩; have B0 := ((Blk.new w _ _ rfl).alloc _).below hb1; have B1 := (Blk.new _ _ _ (by simp : _ = w.heap.size + 1)).below hb1; have q0 : w1.cell? ⟨w.heap.size, 16, none⟩ = some (.int .i64 64) := B0.cell rfl) | (refine wpList_load_row rfl 26 (.tmp 2) rfl _ rfl 26 _ (0, 0) _ ((Blk.new w 26 _ rfl).alloc _) Try.underlying26 rfl (by kernel_rfl) ?_))
  have v0 := conv_of B0 16 [P 0, P 1, P 2, P 3, P 4, P 5, P 6, P 7] (by intro i hi; match i, hi with | 0, _ => rfl | 1, _ => rfl | 2, _ => rfl | 3, _ => rfl | 4, _ => rfl | 5, _ => rfl | 6, _ => rfl | 7, _ => rfl)
  have v1 := conv_of B1 16 [X 0, X 1, X 2, X 3, X 4, X 5, X 6, X 7] (by intro i hi; match i, hi with | 0, _ => rfl | 1, _ => rfl | 2, _ => rfl | 3, _ => rfl | 4, _ => rfl | 5, _ => rfl | 6, _ => rfl | 7, _ => rfl)
  have HB : Below w.heap.size w w1 := (((Below.refl _ _).alloc (Nat.le_refl _) _).alloc (by simp) _).trans (hb1.mono (by simp; omega))
  clear B0 B1 hb1
  have v0 : ∀ k, (convert 27 9 (.slice (some ⟨w.heap.size, 0, none⟩) 8 16)).run Try.prog (w1.drewN k) = .ok (.string (strOfNums [P 0, P 1, P 2, P 3, P 4, P 5, P 6, P 7])) (w1.drewN k) := fun k => v0 (w1.drewN k) rfl
  have v1 : ∀ k, (convert 27 9 (.slice (some ⟨w.heap.size + 1, 0, none⟩) 8 16)).run Try.prog (w1.drewN k) = .ok (.string (strOfNums [X 0, X 1, X 2, X 3, X 4, X 5, X 6, X 7])) (w1.drewN k) := fun k => v1 (w1.drewN k) rfl
  go_quiet (fail)
  go_wp2
  go_ret
  exact ⟨rfl, below_drewN HB _⟩
set_option maxHeartbeats 4000000 in
theorem inside_96 (P X : Nat → Int) (w : World) (h : RightP P 96) (bp : Bytes 16 P) (bx : Bytes 16 X) (r : Bool) (hr : r = true ↔ EqTo P X 12) :
    Calls Try.prog 19 #[net P 96, .agg (a16 X)] w fun e w' => e = .returned (.bool r) ∧ Below w.heap.size w w' := by
  have c15 := fun w => right_t P 96 w h
  have hs : ((strOfNums [P 0, P 1, P 2, P 3, P 4, P 5, P 6, P 7, P 8, P 9, P 10, P 11]).toList == (strOfNums [X 0, X 1, X 2, X 3, X 4, X 5, X 6, X 7, X 8, X 9, X 10, X 11]).toList) = r := by
    have h1 := strs_eq P X 12 (by omega) bp bx
    rw [← hr] at h1
    exact Bool.eq_iff_iff.2 h1
  clear h hr
  go_enter Try.func19, Try.ntmps19
  go_wp2_with (first | (go_at_call 15; (with_reducible refine (c15 _).mono ?_); rintro e w1 ⟨rfl, hb1⟩; have B0 := ((Blk.new w _ _ rfl).alloc _).below hb1; have B1 := (Blk.new _ _ _ (by simp : _ = w.heap.size + 1)).below hb1; have q0 : w1.cell? ⟨w.heap.size, 16, none⟩ = some (.int .i64 96) := B0.cell rfl) | (refine wpList_load_row rfl 26 (.tmp 2) rfl _ rfl 26 _ (0, 0) _ ((Blk.new w 26 _ rfl).alloc _) Try.underlying26 rfl (by kernel_rfl) ?_))
  have v0 := conv_of B0 16 [P 0, P 1, P 2, P 3, P 4, P 5, P 6, P 7, P 8, P 9, P 10, P 11] (by intro i hi; match i, hi with | 0, _ => rfl | 1, _ => rfl | 2, _ => rfl | 3, _ => rfl | 4, _ => rfl | 5, _ => rfl | 6, _ => rfl | 7, _ => rfl | 8, _ => rfl | 9, _ => rfl | 10, _ => rfl | 11, _ => rfl)
  have v1 := conv_of B1 16 [X 0, X 1, X 2, X 3, X 4, X 5, X 6, X 7, X 8, X 9, X 10, X 11] (by intro i hi; match i, hi with | 0, _ => rfl | 1, _ => rfl | 2, _ => rfl | 3, _ => rfl | 4, _ => rfl | 5, _ => rfl | 6, _ => rfl | 7, _ => rfl | 8, _ => rfl | 9, _ => rfl | 10, _ => rfl | 11, _ => rfl)
  have HB : Below w.heap.size w w1 := (((Below.refl _ _).alloc (Nat.le_refl _) _).alloc (by simp) _).trans (hb1.mono (by simp; omega))
  clear B0 B1 hb1
  have v0 : ∀ k, (convert 27 9 (.slice (some ⟨w.heap.size, 0, none⟩) 12 16)).run Try.prog (w1.drewN k) = .ok (.string (strOfNums [P 0, P 1, P 2, P 3, P 4, P 5, P 6, P 7, P 8, P 9, P 10, P 11])) (w1.drewN k) := fun k => v0 (w1.drewN k) rfl
  have v1 : ∀ k, (convert 27 9 (.slice (some ⟨w.heap.size + 1, 0, none⟩) 12 16)).run Try.prog (w1.drewN k) = .ok (.string (strOfNums [X 0, X 1, X 2, X 3, X 4, X 5, X 6, X 7, X 8, X 9, X 10, X 11])) (w1.drewN k) := fun k => v1 (w1.drewN k) rfl
  go_quiet (fail)
  go_wp2
  go_ret
  exact ⟨rfl, below_drewN HB _⟩
def InsideP (P X : Nat → Int) (n : Int) : Prop := RightP P n ∧ EqTo P X (n / 8).toNat
theorem inside_any (P X : Nat → Int) (n : Int) (w : World) (bp : Bytes 16 P) (bx : Bytes 16 X) (r : Bool) (hr : r = true ↔ InsideP P X n) :
    Calls Try.prog 19 #[net P n, .agg (a16 X)] w fun e w' => e = .returned (.bool r) ∧ Below w.heap.size w w' := by
  by_cases h : RightP P n
  · have hl := h.1
    have hr' : r = true ↔ EqTo P X (n / 8).toNat := hr.trans ⟨fun x => x.2, fun x => ⟨h, x⟩⟩
    unfold LenOk at hl
    rcases hl with rfl | rfl | rfl | rfl | rfl | rfl
    · exact inside_32 P X w h bp bx r hr'
    · exact inside_40 P X w h bp bx r hr'
    · exact inside_48 P X w h bp bx r hr'
    · exact inside_56 P X w h bp bx r hr'
    · exact inside_64 P X w h bp bx r hr'
    · exact inside_96 P X w h bp bx r hr'
  · have hf : r = false := by
      cases r with
      | false => rfl
      | true => exact absurd (hr.1 rfl).1 h
    subst hf
    exact inside_f P X n w h
end Go.Proofs.Ytafonnelennlhaa
