/-
  Contract of the reference's To6, where it looks for a line. Conditions stand in each statement.
-/
import Derived.Test.YtcppckpkiloilaaT
namespace Go.Proofs.Ytcppckpkiloilaa
open Go.RowKit
set_option linter.unusedVariables false
set_option linter.unusedSimpArgs false

/-- The block g holds the lines. -/
structure Tab (g : Nat) (ls : List Line) (w : World) : Prop where
  lt : g < w.heap.size
  at_ : ∀ i v, (rows ls)[i]? = some v → w.cell? ⟨g, i, none⟩ = some v
theorem Tab.call {g : Nat} {ls : List Line} {w w' : World} (t : Tab g ls w) (hb : Below w.heap.size w w') : Tab g ls w' :=
  ⟨Nat.lt_of_lt_of_le t.lt hb.size, fun i v h => (hb.cell (p := ⟨g, i, none⟩) t.lt).trans (t.at_ i v h)⟩
theorem Tab.alloc {g : Nat} {ls : List Line} {w : World} (t : Tab g ls w) (o : Obj) : Tab g ls (w.alloc o) :=
  ⟨by have := t.lt; simp; omega, fun i v h => ((Below.refl w.heap.size w).alloc (Nat.le_refl _) o |>.cell (p := ⟨g, i, none⟩) t.lt).trans (t.at_ i v h)⟩
theorem find_tab {g cap n : Nat} {ls : List Line} {k c r : Int} {d : ByteArray} {e : Option (Int × Int × Int)} (he : fnd k c ls = e) (hn : ls.length = n) (hl : n ≤ 100) {w : World} (t : Tab g ls w) :
    Calls Try.prog 25 #[.slice (some ⟨g, 0, none⟩) n cap, msgV k c r d] w fun x w' => x = .returned (retL k c e) ∧ Below w.heap.size w w' := by
  subst hn he
  exact find_any g cap ls k c r d w t.lt hl t.at_

set_option maxRecDepth 100000 in
set_option maxHeartbeats 4000000 in
theorem rto6_o0 (k c r : Int) (d : ByteArray) (a b n : Int) (w : World) (hs : Sides a b) (hwr : IntKind.i64.wrap r = r) (h3 : (k == 3) = false) (h12 : (k == 12) = false) (hf : fnd k c (L2 r 4) = none) :
    Calls Try.prog 15 #[msgV k c r d, .int .i64 a, .int .i64 b, .int .i64 n] w fun e w' => e = .returned (retM (none) d) ∧ Below w.heap.size w w' := by
  have c24 := fun w => rbounds_t a b w hs
  clear hs
  have c26 := fun w => lines6_any r w
  have c25 : ∀ {g cap : Nat} {w : World}, Tab g (L2 r 4) w → Calls Try.prog 25 #[.slice (some ⟨g, 0, none⟩) 18 cap, msgV k c r d] w fun e w' => e = .returned (.tuple #[.agg #[.int .i64 0, .int .i64 0, .int .i64 0, .int .i64 0, .int .i64 0], .bool false]) ∧ Below w.heap.size w w' := fun {g cap} {w} t => find_tab (cap := cap) (r := r) (d := d) hf (L2_len r) (by omega) t
  clear hf
  go_enter Try.func15, Try.ntmps15
  go_upto_region 1 with fail
  have M0 := Mem.two w 26 26 #[.int .i64 k, .int .i64 c, .int .u32 r, .string d] #[.int .i64 0, .int .i64 0, .int .u32 0, .string ⟨#[]⟩]
  refine wp_region_lit ?_
  refine lv (by kernel_rfl) (some 16) rfl (v := ?_) ?_ ?_
  rotate_left
  · go_simp; try with_reducible rfl
  try simp only [Act.put, List.setIfInBounds_toArray, List.set_cons_zero, List.set_cons_succ]
  refine lv (by kernel_rfl) (some 17) rfl (v := ?_) ?_ ?_
  rotate_left
  · go_simp; try with_reducible rfl
  try simp only [Act.put, List.setIfInBounds_toArray, List.set_cons_zero, List.set_cons_succ]
  refine l_same (by kernel_rfl) (some 18) rfl (c24 _) (by kernel_rfl) ?_
  try simp only [Act.put, List.setIfInBounds_toArray, List.set_cons_zero, List.set_cons_succ]
  refine lv (by kernel_rfl) (some 19) rfl (v := ?_) ?_ ?_
  rotate_left
  · go_simp; try with_reducible rfl
  try simp only [Act.put, List.setIfInBounds_toArray, List.set_cons_zero, List.set_cons_succ]
  refine wpList_nil ?_
  go_upto_region 3 with fail
  refine wp_region_lit ?_
  refine lv (by kernel_rfl) (some 21) rfl (v := ?_) ?_ ?_
  rotate_left
  · go_simp; try with_reducible rfl
  try simp only [Act.put, List.setIfInBounds_toArray, List.set_cons_zero, List.set_cons_succ]
  refine ly M0 (some 22) rfl (yi_cell 0 3 (.tmp 21) rfl (by kernel_rfl) rfl _ rfl (.int .i64 k) Try.underlying3 rfl rfl) ?_
  try simp only [Act.put, List.setIfInBounds_toArray, List.set_cons_zero, List.set_cons_succ]
  refine lv (by kernel_rfl) (some 23) rfl (v := ?_) ?_ ?_
  rotate_left
  · go_simp; try with_reducible rfl
  try simp only [Act.put, List.setIfInBounds_toArray, List.set_cons_zero, List.set_cons_succ]
  refine lv (by kernel_rfl) (some 24) rfl (v := ?_) ?_ ?_
  rotate_left
  · go_simp; try with_reducible rfl
  try simp only [Act.put, List.setIfInBounds_toArray, List.set_cons_zero, List.set_cons_succ]
  with_reducible refine lu (by kernel_rfl) (some 25) rfl ?_
  try simp only [Act.put, List.setIfInBounds_toArray, List.set_cons_zero, List.set_cons_succ]
  with_reducible refine lu (by kernel_rfl) (some 26) rfl ?_
  try simp only [Act.put, List.setIfInBounds_toArray, List.set_cons_zero, List.set_cons_succ]
  with_reducible refine lu (by kernel_rfl) (some 27) rfl ?_
  try simp only [Act.put, List.setIfInBounds_toArray, List.set_cons_zero, List.set_cons_succ]
  refine lv (by kernel_rfl) (some 28) rfl (v := ?_) ?_ ?_
  rotate_left
  · go_simp; try with_reducible rfl
  try simp only [Act.put, List.setIfInBounds_toArray, List.set_cons_zero, List.set_cons_succ]
  refine wpList_nil ?_
  go_upto_region 15 with fail
  refine wp_region_lit ?_
  refine lv (by kernel_rfl) (some 56) rfl (v := ?_) ?_ ?_
  rotate_left
  · go_simp; try with_reducible rfl
  try simp only [Act.put, List.setIfInBounds_toArray, List.set_cons_zero, List.set_cons_succ]
  refine ly M0 (some 57) rfl (yi_cell 0 3 (.tmp 56) rfl (by kernel_rfl) rfl _ rfl (.int .i64 k) Try.underlying3 rfl rfl) ?_
  try simp only [Act.put, List.setIfInBounds_toArray, List.set_cons_zero, List.set_cons_succ]
  refine lv (by kernel_rfl) (some 58) rfl (v := ?_) ?_ ?_
  rotate_left
  · go_simp; try with_reducible rfl
  try simp only [Act.put, List.setIfInBounds_toArray, List.set_cons_zero, List.set_cons_succ]
  refine lv (by kernel_rfl) (some 59) rfl (v := ?_) ?_ ?_
  rotate_left
  · go_simp; try with_reducible rfl
  try simp only [Act.put, List.setIfInBounds_toArray, List.set_cons_zero, List.set_cons_succ]
  with_reducible refine lu (by kernel_rfl) (some 60) rfl ?_
  try simp only [Act.put, List.setIfInBounds_toArray, List.set_cons_zero, List.set_cons_succ]
  with_reducible refine lu (by kernel_rfl) (some 61) rfl ?_
  try simp only [Act.put, List.setIfInBounds_toArray, List.set_cons_zero, List.set_cons_succ]
  with_reducible refine lu (by kernel_rfl) (some 62) rfl ?_
  try simp only [Act.put, List.setIfInBounds_toArray, List.set_cons_zero, List.set_cons_succ]
  with_reducible refine lu (by kernel_rfl) (some 63) rfl ?_
  try simp only [Act.put, List.setIfInBounds_toArray, List.set_cons_zero, List.set_cons_succ]
  with_reducible refine lu (by kernel_rfl) (some 64) rfl ?_
  try simp only [Act.put, List.setIfInBounds_toArray, List.set_cons_zero, List.set_cons_succ]
  with_reducible refine lu (by kernel_rfl) (some 65) rfl ?_
  try simp only [Act.put, List.setIfInBounds_toArray, List.set_cons_zero, List.set_cons_succ]
  with_reducible refine lu (by kernel_rfl) (some 66) rfl ?_
  try simp only [Act.put, List.setIfInBounds_toArray, List.set_cons_zero, List.set_cons_succ]
  with_reducible refine lu (by kernel_rfl) (some 67) rfl ?_
  try simp only [Act.put, List.setIfInBounds_toArray, List.set_cons_zero, List.set_cons_succ]
  refine lv (by kernel_rfl) (some 68) rfl (v := ?_) ?_ ?_
  rotate_left
  · go_simp; try with_reducible rfl
  try simp only [Act.put, List.setIfInBounds_toArray, List.set_cons_zero, List.set_cons_succ]
  refine wpList_nil ?_
  go_upto_region 21 with fail
  go_cut [14, 15] (fun s t wz => ∃ gz, s = .pointer (some ⟨gz, 0, none⟩) ∧ t = .bool false ∧ Mem w wz [(w.heap.size, 26, #[.int .i64 k, .int .i64 c, .int .u32 r, .string d]), (w.heap.size + 1, 26, #[.int .i64 0, .int .i64 0, .int .u32 0, .string ⟨#[]⟩]), (gz, 43, #[.int .i64 0, .int .i64 0, .int .i64 0, .int .i64 0, .int .i64 0])])
  case first =>
    refine wp_region_held_drew (S := fun w' => Mem w w' [(w.heap.size, 26, #[.int .i64 k, .int .i64 c, .int .u32 r, .string d]), (w.heap.size + 1, 26, #[.int .i64 0, .int .i64 0, .int .u32 0, .string ⟨#[]⟩])]) (by kernel_rfl) M0.drew (fun _ => ?_)
    have M1 := M0.drew
    refine tk (i := 0) (v := ?_) rfl (some 95) rfl (by kernel_rfl) (by kernel_rfl) (by kernel_rfl) (fun _ _ _ h => h) (Or.inl ⟨by kernel_rfl, ?_⟩) M1 ?_
    rotate_left
    · intro w hS; go_simp; try with_reducible rfl
    try simp only [Act.put, List.setIfInBounds_toArray, List.set_cons_zero, List.set_cons_succ]
    refine tk (i := 1) rfl (some 96) rfl (by kernel_rfl) (by kernel_rfl) (by kernel_rfl) (fun _ _ _ h => h) (yi_cell 0 24 (.tmp 95) rfl (by kernel_rfl) rfl _ rfl (.int .u32 r) Try.underlying24 rfl rfl) M1 ?_
    try simp only [Act.put, List.setIfInBounds_toArray, List.set_cons_zero, List.set_cons_succ]
    refine tk (i := 2) (v := ?_) rfl (some 97) rfl (by kernel_rfl) (by kernel_rfl) (by kernel_rfl) (fun _ _ _ h => h) (Or.inl ⟨by kernel_rfl, ?_⟩) M1 ?_
    rotate_left
    · intro w hS; go_simp; try with_reducible rfl
    try simp only [Act.put, List.setIfInBounds_toArray, List.set_cons_zero, List.set_cons_succ]
    refine tk (i := 4) rfl (some 99) rfl (by kernel_rfl) (by kernel_rfl) (by kernel_rfl) (fun _ _ _ h => h) (yi_row 0 26 (.tmp 4) rfl (by kernel_rfl) rfl rfl Try.underlying26 rfl (by kernel_rfl)) M1 ?_
    try simp only [Act.put, List.setIfInBounds_toArray, List.set_cons_zero, List.set_cons_succ]
    refine wpAnyH_ready (rs := [3, 9]) (by kernel_rfl) (by simp) ?_
    refine br_callR rfl (by kernel_rfl) (some 98) rfl (c26 _) (by kernel_rfl) ?_ ?_
    · rintro _ s2 ⟨g, cap, rfl, hg, hL, hb2⟩
      have M2 := M1.call hb2
      have tab_2 : Tab g (L2 r 4) s2 := ⟨hg, hL⟩
      refine ⟨_, rfl, M2, ?_⟩
      try simp only [Act.put, List.setIfInBounds_toArray, List.set_cons_zero, List.set_cons_succ]
      refine wpAnyH_ready (rs := [5, 9]) (by kernel_rfl) (by simp) ?_
      refine br_call rfl (by kernel_rfl) (some 100) rfl (c25 (cap := cap) tab_2) (by kernel_rfl) (fun w' hb => M2.call hb) (fun s3 hb3 => ?_) ?_
      · have M3 := M2.call hb3
        try simp only [Act.put, List.setIfInBounds_toArray, List.set_cons_zero, List.set_cons_succ]
        refine tk (i := 6) (v := ?_) rfl (some 94) rfl (by kernel_rfl) (by kernel_rfl) (by kernel_rfl) (fun _ _ _ h => h) (Or.inl ⟨by kernel_rfl, ?_⟩) M3 ?_
        rotate_left
        · intro w hS; go_simp; try with_reducible rfl
        try simp only [Act.put, List.setIfInBounds_toArray, List.set_cons_zero, List.set_cons_succ]
        refine tk (i := 7) (v := ?_) rfl (some 101) rfl (by kernel_rfl) (by kernel_rfl) (by kernel_rfl) (fun _ _ _ h => h) (Or.inl ⟨by kernel_rfl, ?_⟩) M3 ?_
        rotate_left
        · intro w hS; go_simp; try with_reducible rfl
        try simp only [Act.put, List.setIfInBounds_toArray, List.set_cons_zero, List.set_cons_succ]
        refine tk (i := 8) (v := ?_) rfl (some 102) rfl (by kernel_rfl) (by kernel_rfl) (by kernel_rfl) (fun _ _ _ h => h) (Or.inl ⟨by kernel_rfl, ?_⟩) M3 ?_
        rotate_left
        · intro w hS; go_simp; try with_reducible rfl
        try simp only [Act.put, List.setIfInBounds_toArray, List.set_cons_zero, List.set_cons_succ]
        refine wpAnyH_ready (rs := [9]) (by kernel_rfl) (by simp) ?_
        refine br_alloc rfl (by kernel_rfl) (some 14) rfl #[.int .i64 0, .int .i64 0, .int .i64 0, .int .i64 0, .int .i64 0] 43 (by kernel_rfl) (M3.alloc _) ?_ ?_
        · have M4 := M3.new rfl 43 #[.int .i64 0, .int .i64 0, .int .i64 0, .int .i64 0, .int .i64 0]
          try simp only [Act.put, List.setIfInBounds_toArray, List.set_cons_zero, List.set_cons_succ]
          refine wpAnyH_ready (rs := [10]) (by kernel_rfl) (by simp) ?_
          refine br_store M4 2 rfl (by kernel_rfl) 43 (.tmp 14) _ rfl rfl rfl rfl _ rfl (by kernel_rfl) (by rfl) (by kernel_rfl) _ rfl (fun w' M' => Mem.init (l := [(w.heap.size, 26, #[.int .i64 k, .int .i64 c, .int .u32 r, .string d]), (w.heap.size + 1, 26, #[.int .i64 0, .int .i64 0, .int .u32 0, .string ⟨#[]⟩])]) M') (fun s5 M5 => ?_) ?_
          · try simp only [List.cons_append, List.nil_append, List.set_cons_zero, List.set_cons_succ] at M5
            try simp only [Act.put, List.setIfInBounds_toArray, List.set_cons_zero, List.set_cons_succ]
            refine tk (i := 11) (v := ?_) rfl (some 15) rfl (by kernel_rfl) (by kernel_rfl) (by kernel_rfl) (fun _ _ _ h => h) (Or.inl ⟨by kernel_rfl, ?_⟩) (Mem.init (l := [(w.heap.size, 26, #[.int .i64 k, .int .i64 c, .int .u32 r, .string d]), (w.heap.size + 1, 26, #[.int .i64 0, .int .i64 0, .int .u32 0, .string ⟨#[]⟩])]) M5) ?_
            rotate_left
            · intro w hS; go_simp; try with_reducible rfl
            try simp only [Act.put, List.setIfInBounds_toArray, List.set_cons_zero, List.set_cons_succ]
            refine wpAnyH_done (by kernel_rfl) ?_ _
            go_wp2_with fail
            go_meet
            case rel => exact ⟨_, rfl, rfl, M5⟩
          exact AllReadyH.nil
        exact AllReadyH.nil
      refine br_alloc rfl (by kernel_rfl) (some 14) rfl #[.int .i64 0, .int .i64 0, .int .i64 0, .int .i64 0, .int .i64 0] 43 (by kernel_rfl) (M2.alloc _) ?_ ?_
      · have M6 := M2.new rfl 43 #[.int .i64 0, .int .i64 0, .int .i64 0, .int .i64 0, .int .i64 0]
        have tab_6 := tab_2.alloc (.cells #[.int .i64 0, .int .i64 0, .int .i64 0, .int .i64 0, .int .i64 0] 43)
        try simp only [Act.put, List.setIfInBounds_toArray, List.set_cons_zero, List.set_cons_succ]
        refine wpAnyH_ready (rs := [5]) (by kernel_rfl) (by simp) ?_
        refine br_call rfl (by kernel_rfl) (some 100) rfl (c25 (cap := cap) tab_6) (by kernel_rfl) (fun w' hb => Mem.init (l := [(w.heap.size, 26, #[.int .i64 k, .int .i64 c, .int .u32 r, .string d]), (w.heap.size + 1, 26, #[.int .i64 0, .int .i64 0, .int .u32 0, .string ⟨#[]⟩])]) (M6.call hb)) (fun s7 hb7 => ?_) ?_
        · have M7 := M6.call hb7
          try simp only [Act.put, List.setIfInBounds_toArray, List.set_cons_zero, List.set_cons_succ]
          refine tk (i := 6) (v := ?_) rfl (some 94) rfl (by kernel_rfl) (by kernel_rfl) (by kernel_rfl) (fun _ _ _ h => h) (Or.inl ⟨by kernel_rfl, ?_⟩) (Mem.init (l := [(w.heap.size, 26, #[.int .i64 k, .int .i64 c, .int .u32 r, .string d]), (w.heap.size + 1, 26, #[.int .i64 0, .int .i64 0, .int .u32 0, .string ⟨#[]⟩])]) M7) ?_
          rotate_left
          · intro w hS; go_simp; try with_reducible rfl
          try simp only [Act.put, List.setIfInBounds_toArray, List.set_cons_zero, List.set_cons_succ]
          refine tk (i := 7) (v := ?_) rfl (some 101) rfl (by kernel_rfl) (by kernel_rfl) (by kernel_rfl) (fun _ _ _ h => h) (Or.inl ⟨by kernel_rfl, ?_⟩) (Mem.init (l := [(w.heap.size, 26, #[.int .i64 k, .int .i64 c, .int .u32 r, .string d]), (w.heap.size + 1, 26, #[.int .i64 0, .int .i64 0, .int .u32 0, .string ⟨#[]⟩])]) M7) ?_
          rotate_left
          · intro w hS; go_simp; try with_reducible rfl
          try simp only [Act.put, List.setIfInBounds_toArray, List.set_cons_zero, List.set_cons_succ]
          refine tk (i := 8) (v := ?_) rfl (some 102) rfl (by kernel_rfl) (by kernel_rfl) (by kernel_rfl) (fun _ _ _ h => h) (Or.inl ⟨by kernel_rfl, ?_⟩) (Mem.init (l := [(w.heap.size, 26, #[.int .i64 k, .int .i64 c, .int .u32 r, .string d]), (w.heap.size + 1, 26, #[.int .i64 0, .int .i64 0, .int .u32 0, .string ⟨#[]⟩])]) M7) ?_
          rotate_left
          · intro w hS; go_simp; try with_reducible rfl
          try simp only [Act.put, List.setIfInBounds_toArray, List.set_cons_zero, List.set_cons_succ]
          refine wpAnyH_ready (rs := [10]) (by kernel_rfl) (by simp) ?_
          refine br_store M7 2 rfl (by kernel_rfl) 43 (.tmp 14) _ rfl rfl rfl rfl _ rfl (by kernel_rfl) (by rfl) (by kernel_rfl) _ rfl (fun w' M' => Mem.init (l := [(w.heap.size, 26, #[.int .i64 k, .int .i64 c, .int .u32 r, .string d]), (w.heap.size + 1, 26, #[.int .i64 0, .int .i64 0, .int .u32 0, .string ⟨#[]⟩])]) M') (fun s8 M8 => ?_) ?_
          · try simp only [List.cons_append, List.nil_append, List.set_cons_zero, List.set_cons_succ] at M8
            try simp only [Act.put, List.setIfInBounds_toArray, List.set_cons_zero, List.set_cons_succ]
            refine tk (i := 11) (v := ?_) rfl (some 15) rfl (by kernel_rfl) (by kernel_rfl) (by kernel_rfl) (fun _ _ _ h => h) (Or.inl ⟨by kernel_rfl, ?_⟩) (Mem.init (l := [(w.heap.size, 26, #[.int .i64 k, .int .i64 c, .int .u32 r, .string d]), (w.heap.size + 1, 26, #[.int .i64 0, .int .i64 0, .int .u32 0, .string ⟨#[]⟩])]) M8) ?_
            rotate_left
            · intro w hS; go_simp; try with_reducible rfl
            try simp only [Act.put, List.setIfInBounds_toArray, List.set_cons_zero, List.set_cons_succ]
            refine wpAnyH_done (by kernel_rfl) ?_ _
            go_wp2_with fail
            go_meet
            case rel => exact ⟨_, rfl, rfl, M8⟩
          exact AllReadyH.nil
        exact AllReadyH.nil
      exact AllReadyH.nil
    refine br_alloc rfl (by kernel_rfl) (some 14) rfl #[.int .i64 0, .int .i64 0, .int .i64 0, .int .i64 0, .int .i64 0] 43 (by kernel_rfl) (M1.alloc _) ?_ ?_
    · have M9 := M1.new rfl 43 #[.int .i64 0, .int .i64 0, .int .i64 0, .int .i64 0, .int .i64 0]
      try simp only [Act.put, List.setIfInBounds_toArray, List.set_cons_zero, List.set_cons_succ]
      refine wpAnyH_ready (rs := [3]) (by kernel_rfl) (by simp) ?_
      refine br_callR rfl (by kernel_rfl) (some 98) rfl (c26 _) (by kernel_rfl) ?_ ?_
      · rintro _ s10 ⟨g, cap, rfl, hg, hL, hb10⟩
        have M10 := M9.call hb10
        have tab_10 : Tab g (L2 r 4) s10 := ⟨hg, hL⟩
        refine ⟨_, rfl, Mem.init (l := [(w.heap.size, 26, #[.int .i64 k, .int .i64 c, .int .u32 r, .string d]), (w.heap.size + 1, 26, #[.int .i64 0, .int .i64 0, .int .u32 0, .string ⟨#[]⟩])]) (M10), ?_⟩
        try simp only [Act.put, List.setIfInBounds_toArray, List.set_cons_zero, List.set_cons_succ]
        refine wpAnyH_ready (rs := [5]) (by kernel_rfl) (by simp) ?_
        refine br_call rfl (by kernel_rfl) (some 100) rfl (c25 (cap := cap) tab_10) (by kernel_rfl) (fun w' hb => Mem.init (l := [(w.heap.size, 26, #[.int .i64 k, .int .i64 c, .int .u32 r, .string d]), (w.heap.size + 1, 26, #[.int .i64 0, .int .i64 0, .int .u32 0, .string ⟨#[]⟩])]) (M10.call hb)) (fun s11 hb11 => ?_) ?_
        · have M11 := M10.call hb11
          try simp only [Act.put, List.setIfInBounds_toArray, List.set_cons_zero, List.set_cons_succ]
          refine tk (i := 6) (v := ?_) rfl (some 94) rfl (by kernel_rfl) (by kernel_rfl) (by kernel_rfl) (fun _ _ _ h => h) (Or.inl ⟨by kernel_rfl, ?_⟩) (Mem.init (l := [(w.heap.size, 26, #[.int .i64 k, .int .i64 c, .int .u32 r, .string d]), (w.heap.size + 1, 26, #[.int .i64 0, .int .i64 0, .int .u32 0, .string ⟨#[]⟩])]) M11) ?_
          rotate_left
          · intro w hS; go_simp; try with_reducible rfl
          try simp only [Act.put, List.setIfInBounds_toArray, List.set_cons_zero, List.set_cons_succ]
          refine tk (i := 7) (v := ?_) rfl (some 101) rfl (by kernel_rfl) (by kernel_rfl) (by kernel_rfl) (fun _ _ _ h => h) (Or.inl ⟨by kernel_rfl, ?_⟩) (Mem.init (l := [(w.heap.size, 26, #[.int .i64 k, .int .i64 c, .int .u32 r, .string d]), (w.heap.size + 1, 26, #[.int .i64 0, .int .i64 0, .int .u32 0, .string ⟨#[]⟩])]) M11) ?_
          rotate_left
          · intro w hS; go_simp; try with_reducible rfl
          try simp only [Act.put, List.setIfInBounds_toArray, List.set_cons_zero, List.set_cons_succ]
          refine tk (i := 8) (v := ?_) rfl (some 102) rfl (by kernel_rfl) (by kernel_rfl) (by kernel_rfl) (fun _ _ _ h => h) (Or.inl ⟨by kernel_rfl, ?_⟩) (Mem.init (l := [(w.heap.size, 26, #[.int .i64 k, .int .i64 c, .int .u32 r, .string d]), (w.heap.size + 1, 26, #[.int .i64 0, .int .i64 0, .int .u32 0, .string ⟨#[]⟩])]) M11) ?_
          rotate_left
          · intro w hS; go_simp; try with_reducible rfl
          try simp only [Act.put, List.setIfInBounds_toArray, List.set_cons_zero, List.set_cons_succ]
          refine wpAnyH_ready (rs := [10]) (by kernel_rfl) (by simp) ?_
          refine br_store M11 2 rfl (by kernel_rfl) 43 (.tmp 14) _ rfl rfl rfl rfl _ rfl (by kernel_rfl) (by rfl) (by kernel_rfl) _ rfl (fun w' M' => Mem.init (l := [(w.heap.size, 26, #[.int .i64 k, .int .i64 c, .int .u32 r, .string d]), (w.heap.size + 1, 26, #[.int .i64 0, .int .i64 0, .int .u32 0, .string ⟨#[]⟩])]) M') (fun s12 M12 => ?_) ?_
          · try simp only [List.cons_append, List.nil_append, List.set_cons_zero, List.set_cons_succ] at M12
            try simp only [Act.put, List.setIfInBounds_toArray, List.set_cons_zero, List.set_cons_succ]
            refine tk (i := 11) (v := ?_) rfl (some 15) rfl (by kernel_rfl) (by kernel_rfl) (by kernel_rfl) (fun _ _ _ h => h) (Or.inl ⟨by kernel_rfl, ?_⟩) (Mem.init (l := [(w.heap.size, 26, #[.int .i64 k, .int .i64 c, .int .u32 r, .string d]), (w.heap.size + 1, 26, #[.int .i64 0, .int .i64 0, .int .u32 0, .string ⟨#[]⟩])]) M12) ?_
            rotate_left
            · intro w hS; go_simp; try with_reducible rfl
            try simp only [Act.put, List.setIfInBounds_toArray, List.set_cons_zero, List.set_cons_succ]
            refine wpAnyH_done (by kernel_rfl) ?_ _
            go_wp2_with fail
            go_meet
            case rel => exact ⟨_, rfl, rfl, M12⟩
          exact AllReadyH.nil
        exact AllReadyH.nil
      exact AllReadyH.nil
    exact AllReadyH.nil
  case rest =>
    obtain ⟨gz, rfl, rfl, MZ⟩ := hcut
    clear M0
    go_upto_region 22 with fail
    refine wp_region_lit ?_
    refine lv (by kernel_rfl) (some 103) rfl (v := ?_) ?_ ?_
    rotate_left
    · go_simp; try with_reducible rfl
    try simp only [Act.put, List.setIfInBounds_toArray, List.set_cons_zero, List.set_cons_succ]
    refine lv (by kernel_rfl) (some 104) rfl (v := ?_) ?_ ?_
    rotate_left
    · go_simp; try with_reducible rfl
    try simp only [Act.put, List.setIfInBounds_toArray, List.set_cons_zero, List.set_cons_succ]
    refine wpList_nil ?_
    go_upto_region 23 with fail
    refine wp_region_lit ?_
    refine lv (by kernel_rfl) (some 105) rfl (v := ?_) ?_ ?_
    rotate_left
    · go_simp; try with_reducible rfl
    try simp only [Act.put, List.setIfInBounds_toArray, List.set_cons_zero, List.set_cons_succ]
    refine l_store MZ 1 (by kernel_rfl) 26 (.tmp 8) _ rfl rfl rfl rfl _ rfl (by kernel_rfl) (by rfl) (by kernel_rfl) _ rfl (fun t13 M13 => ?_)
    clear MZ
    try simp only [List.cons_append, List.nil_append, List.set_cons_zero, List.set_cons_succ] at M13
    try simp only [Act.put, List.setIfInBounds_toArray, List.set_cons_zero, List.set_cons_succ]
    refine lv (by kernel_rfl) (some 9) rfl (v := ?_) ?_ ?_
    rotate_left
    · go_simp; try with_reducible rfl
    try simp only [Act.put, List.setIfInBounds_toArray, List.set_cons_zero, List.set_cons_succ]
    refine wpList_nil ?_
    go_wp2_with fail
    exact bodyPost_ret (v := retM (none) d) (results_cell_tmp rfl (M13.row (i := 1) rfl) _ rfl _ rfl Try.underlying26 rfl (by kernel_rfl)) rfl ⟨rfl, M13.below⟩
set_option maxRecDepth 100000 in
set_option maxHeartbeats 4000000 in
theorem rto6_o1 (k c r x y z : Int) (d : ByteArray) (a b n : Int) (w : World) (hs : Sides a b) (hwr : IntKind.i64.wrap r = r) (h3 : (k == 3) = false) (h12 : (k == 12) = false) (hf : fnd k c (L2 r 4) = some (x, y, z)) (hz : IntKind.u32.wrap z = z) :
    Calls Try.prog 15 #[msgV k c r d, .int .i64 a, .int .i64 b, .int .i64 n] w fun e w' => e = .returned (retM (some (x, y, z)) d) ∧ Below w.heap.size w w' := by
  have c24 := fun w => rbounds_t a b w hs
  clear hs
  have c26 := fun w => lines6_any r w
  have c25 : ∀ {g cap : Nat} {w : World}, Tab g (L2 r 4) w → Calls Try.prog 25 #[.slice (some ⟨g, 0, none⟩) 18 cap, msgV k c r d] w fun e w' => e = .returned (.tuple #[.agg #[.int .i64 k, .int .i64 c, .int .i64 x, .int .i64 y, .int .i64 z], .bool true]) ∧ Below w.heap.size w w' := fun {g cap} {w} t => find_tab (cap := cap) (r := r) (d := d) hf (L2_len r) (by omega) t
  clear hf
  go_enter Try.func15, Try.ntmps15
  go_upto_region 1 with fail
  have M0 := Mem.two w 26 26 #[.int .i64 k, .int .i64 c, .int .u32 r, .string d] #[.int .i64 0, .int .i64 0, .int .u32 0, .string ⟨#[]⟩]
  refine wp_region_lit ?_
  refine lv (by kernel_rfl) (some 16) rfl (v := ?_) ?_ ?_
  rotate_left
  · go_simp; try with_reducible rfl
  try simp only [Act.put, List.setIfInBounds_toArray, List.set_cons_zero, List.set_cons_succ]
  refine lv (by kernel_rfl) (some 17) rfl (v := ?_) ?_ ?_
  rotate_left
  · go_simp; try with_reducible rfl
  try simp only [Act.put, List.setIfInBounds_toArray, List.set_cons_zero, List.set_cons_succ]
  refine l_same (by kernel_rfl) (some 18) rfl (c24 _) (by kernel_rfl) ?_
  try simp only [Act.put, List.setIfInBounds_toArray, List.set_cons_zero, List.set_cons_succ]
  refine lv (by kernel_rfl) (some 19) rfl (v := ?_) ?_ ?_
  rotate_left
  · go_simp; try with_reducible rfl
  try simp only [Act.put, List.setIfInBounds_toArray, List.set_cons_zero, List.set_cons_succ]
  refine wpList_nil ?_
  go_upto_region 3 with fail
  refine wp_region_lit ?_
  refine lv (by kernel_rfl) (some 21) rfl (v := ?_) ?_ ?_
  rotate_left
  · go_simp; try with_reducible rfl
  try simp only [Act.put, List.setIfInBounds_toArray, List.set_cons_zero, List.set_cons_succ]
  refine ly M0 (some 22) rfl (yi_cell 0 3 (.tmp 21) rfl (by kernel_rfl) rfl _ rfl (.int .i64 k) Try.underlying3 rfl rfl) ?_
  try simp only [Act.put, List.setIfInBounds_toArray, List.set_cons_zero, List.set_cons_succ]
  refine lv (by kernel_rfl) (some 23) rfl (v := ?_) ?_ ?_
  rotate_left
  · go_simp; try with_reducible rfl
  try simp only [Act.put, List.setIfInBounds_toArray, List.set_cons_zero, List.set_cons_succ]
  refine lv (by kernel_rfl) (some 24) rfl (v := ?_) ?_ ?_
  rotate_left
  · go_simp; try with_reducible rfl
  try simp only [Act.put, List.setIfInBounds_toArray, List.set_cons_zero, List.set_cons_succ]
  with_reducible refine lu (by kernel_rfl) (some 25) rfl ?_
  try simp only [Act.put, List.setIfInBounds_toArray, List.set_cons_zero, List.set_cons_succ]
  with_reducible refine lu (by kernel_rfl) (some 26) rfl ?_
  try simp only [Act.put, List.setIfInBounds_toArray, List.set_cons_zero, List.set_cons_succ]
  with_reducible refine lu (by kernel_rfl) (some 27) rfl ?_
  try simp only [Act.put, List.setIfInBounds_toArray, List.set_cons_zero, List.set_cons_succ]
  refine lv (by kernel_rfl) (some 28) rfl (v := ?_) ?_ ?_
  rotate_left
  · go_simp; try with_reducible rfl
  try simp only [Act.put, List.setIfInBounds_toArray, List.set_cons_zero, List.set_cons_succ]
  refine wpList_nil ?_
  go_upto_region 15 with fail
  refine wp_region_lit ?_
  refine lv (by kernel_rfl) (some 56) rfl (v := ?_) ?_ ?_
  rotate_left
  · go_simp; try with_reducible rfl
  try simp only [Act.put, List.setIfInBounds_toArray, List.set_cons_zero, List.set_cons_succ]
  refine ly M0 (some 57) rfl (yi_cell 0 3 (.tmp 56) rfl (by kernel_rfl) rfl _ rfl (.int .i64 k) Try.underlying3 rfl rfl) ?_
  try simp only [Act.put, List.setIfInBounds_toArray, List.set_cons_zero, List.set_cons_succ]
  refine lv (by kernel_rfl) (some 58) rfl (v := ?_) ?_ ?_
  rotate_left
  · go_simp; try with_reducible rfl
  try simp only [Act.put, List.setIfInBounds_toArray, List.set_cons_zero, List.set_cons_succ]
  refine lv (by kernel_rfl) (some 59) rfl (v := ?_) ?_ ?_
  rotate_left
  · go_simp; try with_reducible rfl
  try simp only [Act.put, List.setIfInBounds_toArray, List.set_cons_zero, List.set_cons_succ]
  with_reducible refine lu (by kernel_rfl) (some 60) rfl ?_
  try simp only [Act.put, List.setIfInBounds_toArray, List.set_cons_zero, List.set_cons_succ]
  with_reducible refine lu (by kernel_rfl) (some 61) rfl ?_
  try simp only [Act.put, List.setIfInBounds_toArray, List.set_cons_zero, List.set_cons_succ]
  with_reducible refine lu (by kernel_rfl) (some 62) rfl ?_
  try simp only [Act.put, List.setIfInBounds_toArray, List.set_cons_zero, List.set_cons_succ]
  with_reducible refine lu (by kernel_rfl) (some 63) rfl ?_
  try simp only [Act.put, List.setIfInBounds_toArray, List.set_cons_zero, List.set_cons_succ]
  with_reducible refine lu (by kernel_rfl) (some 64) rfl ?_
  try simp only [Act.put, List.setIfInBounds_toArray, List.set_cons_zero, List.set_cons_succ]
  with_reducible refine lu (by kernel_rfl) (some 65) rfl ?_
  try simp only [Act.put, List.setIfInBounds_toArray, List.set_cons_zero, List.set_cons_succ]
  with_reducible refine lu (by kernel_rfl) (some 66) rfl ?_
  try simp only [Act.put, List.setIfInBounds_toArray, List.set_cons_zero, List.set_cons_succ]
  with_reducible refine lu (by kernel_rfl) (some 67) rfl ?_
  try simp only [Act.put, List.setIfInBounds_toArray, List.set_cons_zero, List.set_cons_succ]
  refine lv (by kernel_rfl) (some 68) rfl (v := ?_) ?_ ?_
  rotate_left
  · go_simp; try with_reducible rfl
  try simp only [Act.put, List.setIfInBounds_toArray, List.set_cons_zero, List.set_cons_succ]
  refine wpList_nil ?_
  go_upto_region 21 with fail
  go_cut [14, 15] (fun s t wz => ∃ gz, s = .pointer (some ⟨gz, 0, none⟩) ∧ t = .bool true ∧ Mem w wz [(w.heap.size, 26, #[.int .i64 k, .int .i64 c, .int .u32 r, .string d]), (w.heap.size + 1, 26, #[.int .i64 0, .int .i64 0, .int .u32 0, .string ⟨#[]⟩]), (gz, 43, #[.int .i64 k, .int .i64 c, .int .i64 x, .int .i64 y, .int .i64 z])])
  case first =>
    refine wp_region_held_drew (S := fun w' => Mem w w' [(w.heap.size, 26, #[.int .i64 k, .int .i64 c, .int .u32 r, .string d]), (w.heap.size + 1, 26, #[.int .i64 0, .int .i64 0, .int .u32 0, .string ⟨#[]⟩])]) (by kernel_rfl) M0.drew (fun _ => ?_)
    have M1 := M0.drew
    refine tk (i := 0) (v := ?_) rfl (some 95) rfl (by kernel_rfl) (by kernel_rfl) (by kernel_rfl) (fun _ _ _ h => h) (Or.inl ⟨by kernel_rfl, ?_⟩) M1 ?_
    rotate_left
    · intro w hS; go_simp; try with_reducible rfl
    try simp only [Act.put, List.setIfInBounds_toArray, List.set_cons_zero, List.set_cons_succ]
    refine tk (i := 1) rfl (some 96) rfl (by kernel_rfl) (by kernel_rfl) (by kernel_rfl) (fun _ _ _ h => h) (yi_cell 0 24 (.tmp 95) rfl (by kernel_rfl) rfl _ rfl (.int .u32 r) Try.underlying24 rfl rfl) M1 ?_
    try simp only [Act.put, List.setIfInBounds_toArray, List.set_cons_zero, List.set_cons_succ]
    refine tk (i := 2) (v := ?_) rfl (some 97) rfl (by kernel_rfl) (by kernel_rfl) (by kernel_rfl) (fun _ _ _ h => h) (Or.inl ⟨by kernel_rfl, ?_⟩) M1 ?_
    rotate_left
    · intro w hS; go_simp; try with_reducible rfl
    try simp only [Act.put, List.setIfInBounds_toArray, List.set_cons_zero, List.set_cons_succ]
    refine tk (i := 4) rfl (some 99) rfl (by kernel_rfl) (by kernel_rfl) (by kernel_rfl) (fun _ _ _ h => h) (yi_row 0 26 (.tmp 4) rfl (by kernel_rfl) rfl rfl Try.underlying26 rfl (by kernel_rfl)) M1 ?_
    try simp only [Act.put, List.setIfInBounds_toArray, List.set_cons_zero, List.set_cons_succ]
    refine wpAnyH_ready (rs := [3, 9]) (by kernel_rfl) (by simp) ?_
    refine br_callR rfl (by kernel_rfl) (some 98) rfl (c26 _) (by kernel_rfl) ?_ ?_
    · rintro _ s2 ⟨g, cap, rfl, hg, hL, hb2⟩
      have M2 := M1.call hb2
      have tab_2 : Tab g (L2 r 4) s2 := ⟨hg, hL⟩
      refine ⟨_, rfl, M2, ?_⟩
      try simp only [Act.put, List.setIfInBounds_toArray, List.set_cons_zero, List.set_cons_succ]
      refine wpAnyH_ready (rs := [5, 9]) (by kernel_rfl) (by simp) ?_
      refine br_call rfl (by kernel_rfl) (some 100) rfl (c25 (cap := cap) tab_2) (by kernel_rfl) (fun w' hb => M2.call hb) (fun s3 hb3 => ?_) ?_
      · have M3 := M2.call hb3
        try simp only [Act.put, List.setIfInBounds_toArray, List.set_cons_zero, List.set_cons_succ]
        refine tk (i := 6) (v := ?_) rfl (some 94) rfl (by kernel_rfl) (by kernel_rfl) (by kernel_rfl) (fun _ _ _ h => h) (Or.inl ⟨by kernel_rfl, ?_⟩) M3 ?_
        rotate_left
        · intro w hS; go_simp; try with_reducible rfl
        try simp only [Act.put, List.setIfInBounds_toArray, List.set_cons_zero, List.set_cons_succ]
        refine tk (i := 7) (v := ?_) rfl (some 101) rfl (by kernel_rfl) (by kernel_rfl) (by kernel_rfl) (fun _ _ _ h => h) (Or.inl ⟨by kernel_rfl, ?_⟩) M3 ?_
        rotate_left
        · intro w hS; go_simp; try with_reducible rfl
        try simp only [Act.put, List.setIfInBounds_toArray, List.set_cons_zero, List.set_cons_succ]
        refine tk (i := 8) (v := ?_) rfl (some 102) rfl (by kernel_rfl) (by kernel_rfl) (by kernel_rfl) (fun _ _ _ h => h) (Or.inl ⟨by kernel_rfl, ?_⟩) M3 ?_
        rotate_left
        · intro w hS; go_simp; try with_reducible rfl
        try simp only [Act.put, List.setIfInBounds_toArray, List.set_cons_zero, List.set_cons_succ]
        refine wpAnyH_ready (rs := [9]) (by kernel_rfl) (by simp) ?_
        refine br_alloc rfl (by kernel_rfl) (some 14) rfl #[.int .i64 0, .int .i64 0, .int .i64 0, .int .i64 0, .int .i64 0] 43 (by kernel_rfl) (M3.alloc _) ?_ ?_
        · have M4 := M3.new rfl 43 #[.int .i64 0, .int .i64 0, .int .i64 0, .int .i64 0, .int .i64 0]
          try simp only [Act.put, List.setIfInBounds_toArray, List.set_cons_zero, List.set_cons_succ]
          refine wpAnyH_ready (rs := [10]) (by kernel_rfl) (by simp) ?_
          refine br_store M4 2 rfl (by kernel_rfl) 43 (.tmp 14) _ rfl rfl rfl rfl _ rfl (by kernel_rfl) (by rfl) (by kernel_rfl) _ rfl (fun w' M' => Mem.init (l := [(w.heap.size, 26, #[.int .i64 k, .int .i64 c, .int .u32 r, .string d]), (w.heap.size + 1, 26, #[.int .i64 0, .int .i64 0, .int .u32 0, .string ⟨#[]⟩])]) M') (fun s5 M5 => ?_) ?_
          · try simp only [List.cons_append, List.nil_append, List.set_cons_zero, List.set_cons_succ] at M5
            try simp only [Act.put, List.setIfInBounds_toArray, List.set_cons_zero, List.set_cons_succ]
            refine tk (i := 11) (v := ?_) rfl (some 15) rfl (by kernel_rfl) (by kernel_rfl) (by kernel_rfl) (fun _ _ _ h => h) (Or.inl ⟨by kernel_rfl, ?_⟩) (Mem.init (l := [(w.heap.size, 26, #[.int .i64 k, .int .i64 c, .int .u32 r, .string d]), (w.heap.size + 1, 26, #[.int .i64 0, .int .i64 0, .int .u32 0, .string ⟨#[]⟩])]) M5) ?_
            rotate_left
            · intro w hS; go_simp; try with_reducible rfl
            try simp only [Act.put, List.setIfInBounds_toArray, List.set_cons_zero, List.set_cons_succ]
            refine wpAnyH_done (by kernel_rfl) ?_ _
            go_wp2_with fail
            go_meet
            case rel => exact ⟨_, rfl, rfl, M5⟩
          exact AllReadyH.nil
        exact AllReadyH.nil
      refine br_alloc rfl (by kernel_rfl) (some 14) rfl #[.int .i64 0, .int .i64 0, .int .i64 0, .int .i64 0, .int .i64 0] 43 (by kernel_rfl) (M2.alloc _) ?_ ?_
      · have M6 := M2.new rfl 43 #[.int .i64 0, .int .i64 0, .int .i64 0, .int .i64 0, .int .i64 0]
        have tab_6 := tab_2.alloc (.cells #[.int .i64 0, .int .i64 0, .int .i64 0, .int .i64 0, .int .i64 0] 43)
        try simp only [Act.put, List.setIfInBounds_toArray, List.set_cons_zero, List.set_cons_succ]
        refine wpAnyH_ready (rs := [5]) (by kernel_rfl) (by simp) ?_
        refine br_call rfl (by kernel_rfl) (some 100) rfl (c25 (cap := cap) tab_6) (by kernel_rfl) (fun w' hb => Mem.init (l := [(w.heap.size, 26, #[.int .i64 k, .int .i64 c, .int .u32 r, .string d]), (w.heap.size + 1, 26, #[.int .i64 0, .int .i64 0, .int .u32 0, .string ⟨#[]⟩])]) (M6.call hb)) (fun s7 hb7 => ?_) ?_
        · have M7 := M6.call hb7
          try simp only [Act.put, List.setIfInBounds_toArray, List.set_cons_zero, List.set_cons_succ]
          refine tk (i := 6) (v := ?_) rfl (some 94) rfl (by kernel_rfl) (by kernel_rfl) (by kernel_rfl) (fun _ _ _ h => h) (Or.inl ⟨by kernel_rfl, ?_⟩) (Mem.init (l := [(w.heap.size, 26, #[.int .i64 k, .int .i64 c, .int .u32 r, .string d]), (w.heap.size + 1, 26, #[.int .i64 0, .int .i64 0, .int .u32 0, .string ⟨#[]⟩])]) M7) ?_
          rotate_left
          · intro w hS; go_simp; try with_reducible rfl
          try simp only [Act.put, List.setIfInBounds_toArray, List.set_cons_zero, List.set_cons_succ]
          refine tk (i := 7) (v := ?_) rfl (some 101) rfl (by kernel_rfl) (by kernel_rfl) (by kernel_rfl) (fun _ _ _ h => h) (Or.inl ⟨by kernel_rfl, ?_⟩) (Mem.init (l := [(w.heap.size, 26, #[.int .i64 k, .int .i64 c, .int .u32 r, .string d]), (w.heap.size + 1, 26, #[.int .i64 0, .int .i64 0, .int .u32 0, .string ⟨#[]⟩])]) M7) ?_
          rotate_left
          · intro w hS; go_simp; try with_reducible rfl
          try simp only [Act.put, List.setIfInBounds_toArray, List.set_cons_zero, List.set_cons_succ]
          refine tk (i := 8) (v := ?_) rfl (some 102) rfl (by kernel_rfl) (by kernel_rfl) (by kernel_rfl) (fun _ _ _ h => h) (Or.inl ⟨by kernel_rfl, ?_⟩) (Mem.init (l := [(w.heap.size, 26, #[.int .i64 k, .int .i64 c, .int .u32 r, .string d]), (w.heap.size + 1, 26, #[.int .i64 0, .int .i64 0, .int .u32 0, .string ⟨#[]⟩])]) M7) ?_
          rotate_left
          · intro w hS; go_simp; try with_reducible rfl
          try simp only [Act.put, List.setIfInBounds_toArray, List.set_cons_zero, List.set_cons_succ]
          refine wpAnyH_ready (rs := [10]) (by kernel_rfl) (by simp) ?_
          refine br_store M7 2 rfl (by kernel_rfl) 43 (.tmp 14) _ rfl rfl rfl rfl _ rfl (by kernel_rfl) (by rfl) (by kernel_rfl) _ rfl (fun w' M' => Mem.init (l := [(w.heap.size, 26, #[.int .i64 k, .int .i64 c, .int .u32 r, .string d]), (w.heap.size + 1, 26, #[.int .i64 0, .int .i64 0, .int .u32 0, .string ⟨#[]⟩])]) M') (fun s8 M8 => ?_) ?_
          · try simp only [List.cons_append, List.nil_append, List.set_cons_zero, List.set_cons_succ] at M8
            try simp only [Act.put, List.setIfInBounds_toArray, List.set_cons_zero, List.set_cons_succ]
            refine tk (i := 11) (v := ?_) rfl (some 15) rfl (by kernel_rfl) (by kernel_rfl) (by kernel_rfl) (fun _ _ _ h => h) (Or.inl ⟨by kernel_rfl, ?_⟩) (Mem.init (l := [(w.heap.size, 26, #[.int .i64 k, .int .i64 c, .int .u32 r, .string d]), (w.heap.size + 1, 26, #[.int .i64 0, .int .i64 0, .int .u32 0, .string ⟨#[]⟩])]) M8) ?_
            rotate_left
            · intro w hS; go_simp; try with_reducible rfl
            try simp only [Act.put, List.setIfInBounds_toArray, List.set_cons_zero, List.set_cons_succ]
            refine wpAnyH_done (by kernel_rfl) ?_ _
            go_wp2_with fail
            go_meet
            case rel => exact ⟨_, rfl, rfl, M8⟩
          exact AllReadyH.nil
        exact AllReadyH.nil
      exact AllReadyH.nil
    refine br_alloc rfl (by kernel_rfl) (some 14) rfl #[.int .i64 0, .int .i64 0, .int .i64 0, .int .i64 0, .int .i64 0] 43 (by kernel_rfl) (M1.alloc _) ?_ ?_
    · have M9 := M1.new rfl 43 #[.int .i64 0, .int .i64 0, .int .i64 0, .int .i64 0, .int .i64 0]
      try simp only [Act.put, List.setIfInBounds_toArray, List.set_cons_zero, List.set_cons_succ]
      refine wpAnyH_ready (rs := [3]) (by kernel_rfl) (by simp) ?_
      refine br_callR rfl (by kernel_rfl) (some 98) rfl (c26 _) (by kernel_rfl) ?_ ?_
      · rintro _ s10 ⟨g, cap, rfl, hg, hL, hb10⟩
        have M10 := M9.call hb10
        have tab_10 : Tab g (L2 r 4) s10 := ⟨hg, hL⟩
        refine ⟨_, rfl, Mem.init (l := [(w.heap.size, 26, #[.int .i64 k, .int .i64 c, .int .u32 r, .string d]), (w.heap.size + 1, 26, #[.int .i64 0, .int .i64 0, .int .u32 0, .string ⟨#[]⟩])]) (M10), ?_⟩
        try simp only [Act.put, List.setIfInBounds_toArray, List.set_cons_zero, List.set_cons_succ]
        refine wpAnyH_ready (rs := [5]) (by kernel_rfl) (by simp) ?_
        refine br_call rfl (by kernel_rfl) (some 100) rfl (c25 (cap := cap) tab_10) (by kernel_rfl) (fun w' hb => Mem.init (l := [(w.heap.size, 26, #[.int .i64 k, .int .i64 c, .int .u32 r, .string d]), (w.heap.size + 1, 26, #[.int .i64 0, .int .i64 0, .int .u32 0, .string ⟨#[]⟩])]) (M10.call hb)) (fun s11 hb11 => ?_) ?_
        · have M11 := M10.call hb11
          try simp only [Act.put, List.setIfInBounds_toArray, List.set_cons_zero, List.set_cons_succ]
          refine tk (i := 6) (v := ?_) rfl (some 94) rfl (by kernel_rfl) (by kernel_rfl) (by kernel_rfl) (fun _ _ _ h => h) (Or.inl ⟨by kernel_rfl, ?_⟩) (Mem.init (l := [(w.heap.size, 26, #[.int .i64 k, .int .i64 c, .int .u32 r, .string d]), (w.heap.size + 1, 26, #[.int .i64 0, .int .i64 0, .int .u32 0, .string ⟨#[]⟩])]) M11) ?_
          rotate_left
          · intro w hS; go_simp; try with_reducible rfl
          try simp only [Act.put, List.setIfInBounds_toArray, List.set_cons_zero, List.set_cons_succ]
          refine tk (i := 7) (v := ?_) rfl (some 101) rfl (by kernel_rfl) (by kernel_rfl) (by kernel_rfl) (fun _ _ _ h => h) (Or.inl ⟨by kernel_rfl, ?_⟩) (Mem.init (l := [(w.heap.size, 26, #[.int .i64 k, .int .i64 c, .int .u32 r, .string d]), (w.heap.size + 1, 26, #[.int .i64 0, .int .i64 0, .int .u32 0, .string ⟨#[]⟩])]) M11) ?_
          rotate_left
          · intro w hS; go_simp; try with_reducible rfl
          try simp only [Act.put, List.setIfInBounds_toArray, List.set_cons_zero, List.set_cons_succ]
          refine tk (i := 8) (v := ?_) rfl (some 102) rfl (by kernel_rfl) (by kernel_rfl) (by kernel_rfl) (fun _ _ _ h => h) (Or.inl ⟨by kernel_rfl, ?_⟩) (Mem.init (l := [(w.heap.size, 26, #[.int .i64 k, .int .i64 c, .int .u32 r, .string d]), (w.heap.size + 1, 26, #[.int .i64 0, .int .i64 0, .int .u32 0, .string ⟨#[]⟩])]) M11) ?_
          rotate_left
          · intro w hS; go_simp; try with_reducible rfl
          try simp only [Act.put, List.setIfInBounds_toArray, List.set_cons_zero, List.set_cons_succ]
          refine wpAnyH_ready (rs := [10]) (by kernel_rfl) (by simp) ?_
          refine br_store M11 2 rfl (by kernel_rfl) 43 (.tmp 14) _ rfl rfl rfl rfl _ rfl (by kernel_rfl) (by rfl) (by kernel_rfl) _ rfl (fun w' M' => Mem.init (l := [(w.heap.size, 26, #[.int .i64 k, .int .i64 c, .int .u32 r, .string d]), (w.heap.size + 1, 26, #[.int .i64 0, .int .i64 0, .int .u32 0, .string ⟨#[]⟩])]) M') (fun s12 M12 => ?_) ?_
          · try simp only [List.cons_append, List.nil_append, List.set_cons_zero, List.set_cons_succ] at M12
            try simp only [Act.put, List.setIfInBounds_toArray, List.set_cons_zero, List.set_cons_succ]
            refine tk (i := 11) (v := ?_) rfl (some 15) rfl (by kernel_rfl) (by kernel_rfl) (by kernel_rfl) (fun _ _ _ h => h) (Or.inl ⟨by kernel_rfl, ?_⟩) (Mem.init (l := [(w.heap.size, 26, #[.int .i64 k, .int .i64 c, .int .u32 r, .string d]), (w.heap.size + 1, 26, #[.int .i64 0, .int .i64 0, .int .u32 0, .string ⟨#[]⟩])]) M12) ?_
            rotate_left
            · intro w hS; go_simp; try with_reducible rfl
            try simp only [Act.put, List.setIfInBounds_toArray, List.set_cons_zero, List.set_cons_succ]
            refine wpAnyH_done (by kernel_rfl) ?_ _
            go_wp2_with fail
            go_meet
            case rel => exact ⟨_, rfl, rfl, M12⟩
          exact AllReadyH.nil
        exact AllReadyH.nil
      exact AllReadyH.nil
    exact AllReadyH.nil
  case rest =>
    obtain ⟨gz, rfl, rfl, MZ⟩ := hcut
    clear M0
    go_upto_region 22 with fail
    refine wp_region_lit ?_
    refine lv (by kernel_rfl) (some 103) rfl (v := ?_) ?_ ?_
    rotate_left
    · go_simp; try with_reducible rfl
    try simp only [Act.put, List.setIfInBounds_toArray, List.set_cons_zero, List.set_cons_succ]
    refine lv (by kernel_rfl) (some 104) rfl (v := ?_) ?_ ?_
    rotate_left
    · go_simp; try with_reducible rfl
    try simp only [Act.put, List.setIfInBounds_toArray, List.set_cons_zero, List.set_cons_succ]
    refine wpList_nil ?_
    go_upto_region 24 with fail
    refine wp_region_lit ?_
    refine lv (by kernel_rfl) (some 106) rfl (v := ?_) ?_ ?_
    rotate_left
    · go_simp; try with_reducible rfl
    try simp only [Act.put, List.setIfInBounds_toArray, List.set_cons_zero, List.set_cons_succ]
    refine ly MZ (some 107) rfl (yi_cell 2 3 (.tmp 106) rfl (by kernel_rfl) rfl _ rfl (.int .i64 x) Try.underlying3 rfl rfl) ?_
    try simp only [Act.put, List.setIfInBounds_toArray, List.set_cons_zero, List.set_cons_succ]
    refine lv (by kernel_rfl) (some 108) rfl (v := ?_) ?_ ?_
    rotate_left
    · go_simp; try with_reducible rfl
    try simp only [Act.put, List.setIfInBounds_toArray, List.set_cons_zero, List.set_cons_succ]
    refine ly MZ (some 109) rfl (yi_cell 2 3 (.tmp 108) rfl (by kernel_rfl) rfl _ rfl (.int .i64 y) Try.underlying3 rfl rfl) ?_
    try simp only [Act.put, List.setIfInBounds_toArray, List.set_cons_zero, List.set_cons_succ]
    refine lv (by kernel_rfl) (some 110) rfl (v := ?_) ?_ ?_
    rotate_left
    · go_simp; try with_reducible rfl
    try simp only [Act.put, List.setIfInBounds_toArray, List.set_cons_zero, List.set_cons_succ]
    refine ly MZ (some 111) rfl (yi_cell 2 3 (.tmp 110) rfl (by kernel_rfl) rfl _ rfl (.int .i64 z) Try.underlying3 rfl rfl) ?_
    try simp only [Act.put, List.setIfInBounds_toArray, List.set_cons_zero, List.set_cons_succ]
    refine lv (by kernel_rfl) (some 112) rfl (v := ?_) ?_ ?_
    rotate_left
    · go_simp; try with_reducible rfl
    try simp only [Act.put, List.setIfInBounds_toArray, List.set_cons_zero, List.set_cons_succ]
    refine lv (by kernel_rfl) (some 113) rfl (v := ?_) ?_ ?_
    rotate_left
    · go_simp; try with_reducible rfl
    try simp only [Act.put, List.setIfInBounds_toArray, List.set_cons_zero, List.set_cons_succ]
    refine ly MZ (some 114) rfl (yi_cell 0 9 (.tmp 113) rfl (by kernel_rfl) rfl _ rfl (.string d) Try.underlying9 rfl rfl) ?_
    try simp only [Act.put, List.setIfInBounds_toArray, List.set_cons_zero, List.set_cons_succ]
    refine lv (by kernel_rfl) (some 115) rfl (v := ?_) ?_ ?_
    rotate_left
    · go_simp; try with_reducible rfl
    try simp only [Act.put, List.setIfInBounds_toArray, List.set_cons_zero, List.set_cons_succ]
    refine l_store MZ 1 (by kernel_rfl) 26 (.tmp 8) _ rfl rfl rfl rfl _ rfl (by kernel_rfl) (by rfl) (by kernel_rfl) _ rfl (fun t13 M13 => ?_)
    clear MZ
    try simp only [List.cons_append, List.nil_append, List.set_cons_zero, List.set_cons_succ] at M13
    try simp only [Act.put, List.setIfInBounds_toArray, List.set_cons_zero, List.set_cons_succ]
    refine lv (by kernel_rfl) (some 9) rfl (v := ?_) ?_ ?_
    rotate_left
    · go_simp; try with_reducible rfl
    try simp only [Act.put, List.setIfInBounds_toArray, List.set_cons_zero, List.set_cons_succ]
    refine wpList_nil ?_
    go_wp2_with fail
    exact bodyPost_ret (v := retM (some (x, y, z)) d) (results_cell_tmp rfl (M13.row (i := 1) rfl) _ rfl _ rfl Try.underlying26 rfl (by kernel_rfl)) rfl ⟨rfl, M13.below⟩
set_option maxRecDepth 100000 in
set_option maxHeartbeats 4000000 in
theorem rto6_t0 (k c r : Int) (d : ByteArray) (a b n : Int) (w : World) (hs : Sides a b) (hwr : IntKind.i64.wrap r = r) (h3 : (k == 3) = true) (h4 : (c == 4) = false) (h12 : (k == 12) = false) (hf : fnd k c (L2 r 4) = none) :
    Calls Try.prog 15 #[msgV k c r d, .int .i64 a, .int .i64 b, .int .i64 n] w fun e w' => e = .returned (retM (none) d) ∧ Below w.heap.size w w' := by
  have c24 := fun w => rbounds_t a b w hs
  clear hs
  have c26 := fun w => lines6_any r w
  have c25 : ∀ {g cap : Nat} {w : World}, Tab g (L2 r 4) w → Calls Try.prog 25 #[.slice (some ⟨g, 0, none⟩) 18 cap, msgV k c r d] w fun e w' => e = .returned (.tuple #[.agg #[.int .i64 0, .int .i64 0, .int .i64 0, .int .i64 0, .int .i64 0], .bool false]) ∧ Below w.heap.size w w' := fun {g cap} {w} t => find_tab (cap := cap) (r := r) (d := d) hf (L2_len r) (by omega) t
  clear hf
  go_enter Try.func15, Try.ntmps15
  go_upto_region 1 with fail
  have M0 := Mem.two w 26 26 #[.int .i64 k, .int .i64 c, .int .u32 r, .string d] #[.int .i64 0, .int .i64 0, .int .u32 0, .string ⟨#[]⟩]
  refine wp_region_lit ?_
  refine lv (by kernel_rfl) (some 16) rfl (v := ?_) ?_ ?_
  rotate_left
  · go_simp; try with_reducible rfl
  try simp only [Act.put, List.setIfInBounds_toArray, List.set_cons_zero, List.set_cons_succ]
  refine lv (by kernel_rfl) (some 17) rfl (v := ?_) ?_ ?_
  rotate_left
  · go_simp; try with_reducible rfl
  try simp only [Act.put, List.setIfInBounds_toArray, List.set_cons_zero, List.set_cons_succ]
  refine l_same (by kernel_rfl) (some 18) rfl (c24 _) (by kernel_rfl) ?_
  try simp only [Act.put, List.setIfInBounds_toArray, List.set_cons_zero, List.set_cons_succ]
  refine lv (by kernel_rfl) (some 19) rfl (v := ?_) ?_ ?_
  rotate_left
  · go_simp; try with_reducible rfl
  try simp only [Act.put, List.setIfInBounds_toArray, List.set_cons_zero, List.set_cons_succ]
  refine wpList_nil ?_
  go_upto_region 3 with fail
  refine wp_region_lit ?_
  refine lv (by kernel_rfl) (some 21) rfl (v := ?_) ?_ ?_
  rotate_left
  · go_simp; try with_reducible rfl
  try simp only [Act.put, List.setIfInBounds_toArray, List.set_cons_zero, List.set_cons_succ]
  refine ly M0 (some 22) rfl (yi_cell 0 3 (.tmp 21) rfl (by kernel_rfl) rfl _ rfl (.int .i64 k) Try.underlying3 rfl rfl) ?_
  try simp only [Act.put, List.setIfInBounds_toArray, List.set_cons_zero, List.set_cons_succ]
  refine lv (by kernel_rfl) (some 23) rfl (v := ?_) ?_ ?_
  rotate_left
  · go_simp; try with_reducible rfl
  try simp only [Act.put, List.setIfInBounds_toArray, List.set_cons_zero, List.set_cons_succ]
  refine lv (by kernel_rfl) (some 24) rfl (v := ?_) ?_ ?_
  rotate_left
  · go_simp; try with_reducible rfl
  try simp only [Act.put, List.setIfInBounds_toArray, List.set_cons_zero, List.set_cons_succ]
  refine lv (by kernel_rfl) (some 25) rfl (v := ?_) ?_ ?_
  rotate_left
  · go_simp; try with_reducible rfl
  try simp only [Act.put, List.setIfInBounds_toArray, List.set_cons_zero, List.set_cons_succ]
  refine ly M0 (some 26) rfl (yi_cell 0 3 (.tmp 25) rfl (by kernel_rfl) rfl _ rfl (.int .i64 c) Try.underlying3 rfl rfl) ?_
  try simp only [Act.put, List.setIfInBounds_toArray, List.set_cons_zero, List.set_cons_succ]
  refine lv (by kernel_rfl) (some 27) rfl (v := ?_) ?_ ?_
  rotate_left
  · go_simp; try with_reducible rfl
  try simp only [Act.put, List.setIfInBounds_toArray, List.set_cons_zero, List.set_cons_succ]
  refine lv (by kernel_rfl) (some 28) rfl (v := ?_) ?_ ?_
  rotate_left
  · go_simp; try with_reducible rfl
  try simp only [Act.put, List.setIfInBounds_toArray, List.set_cons_zero, List.set_cons_succ]
  refine wpList_nil ?_
  go_upto_region 15 with fail
  refine wp_region_lit ?_
  refine lv (by kernel_rfl) (some 56) rfl (v := ?_) ?_ ?_
  rotate_left
  · go_simp; try with_reducible rfl
  try simp only [Act.put, List.setIfInBounds_toArray, List.set_cons_zero, List.set_cons_succ]
  refine ly M0 (some 57) rfl (yi_cell 0 3 (.tmp 56) rfl (by kernel_rfl) rfl _ rfl (.int .i64 k) Try.underlying3 rfl rfl) ?_
  try simp only [Act.put, List.setIfInBounds_toArray, List.set_cons_zero, List.set_cons_succ]
  refine lv (by kernel_rfl) (some 58) rfl (v := ?_) ?_ ?_
  rotate_left
  · go_simp; try with_reducible rfl
  try simp only [Act.put, List.setIfInBounds_toArray, List.set_cons_zero, List.set_cons_succ]
  refine lv (by kernel_rfl) (some 59) rfl (v := ?_) ?_ ?_
  rotate_left
  · go_simp; try with_reducible rfl
  try simp only [Act.put, List.setIfInBounds_toArray, List.set_cons_zero, List.set_cons_succ]
  with_reducible refine lu (by kernel_rfl) (some 60) rfl ?_
  try simp only [Act.put, List.setIfInBounds_toArray, List.set_cons_zero, List.set_cons_succ]
  with_reducible refine lu (by kernel_rfl) (some 61) rfl ?_
  try simp only [Act.put, List.setIfInBounds_toArray, List.set_cons_zero, List.set_cons_succ]
  with_reducible refine lu (by kernel_rfl) (some 62) rfl ?_
  try simp only [Act.put, List.setIfInBounds_toArray, List.set_cons_zero, List.set_cons_succ]
  with_reducible refine lu (by kernel_rfl) (some 63) rfl ?_
  try simp only [Act.put, List.setIfInBounds_toArray, List.set_cons_zero, List.set_cons_succ]
  with_reducible refine lu (by kernel_rfl) (some 64) rfl ?_
  try simp only [Act.put, List.setIfInBounds_toArray, List.set_cons_zero, List.set_cons_succ]
  with_reducible refine lu (by kernel_rfl) (some 65) rfl ?_
  try simp only [Act.put, List.setIfInBounds_toArray, List.set_cons_zero, List.set_cons_succ]
  with_reducible refine lu (by kernel_rfl) (some 66) rfl ?_
  try simp only [Act.put, List.setIfInBounds_toArray, List.set_cons_zero, List.set_cons_succ]
  with_reducible refine lu (by kernel_rfl) (some 67) rfl ?_
  try simp only [Act.put, List.setIfInBounds_toArray, List.set_cons_zero, List.set_cons_succ]
  refine lv (by kernel_rfl) (some 68) rfl (v := ?_) ?_ ?_
  rotate_left
  · go_simp; try with_reducible rfl
  try simp only [Act.put, List.setIfInBounds_toArray, List.set_cons_zero, List.set_cons_succ]
  refine wpList_nil ?_
  go_upto_region 21 with fail
  go_cut [14, 15] (fun s t wz => ∃ gz, s = .pointer (some ⟨gz, 0, none⟩) ∧ t = .bool false ∧ Mem w wz [(w.heap.size, 26, #[.int .i64 k, .int .i64 c, .int .u32 r, .string d]), (w.heap.size + 1, 26, #[.int .i64 0, .int .i64 0, .int .u32 0, .string ⟨#[]⟩]), (gz, 43, #[.int .i64 0, .int .i64 0, .int .i64 0, .int .i64 0, .int .i64 0])])
  case first =>
    refine wp_region_held_drew (S := fun w' => Mem w w' [(w.heap.size, 26, #[.int .i64 k, .int .i64 c, .int .u32 r, .string d]), (w.heap.size + 1, 26, #[.int .i64 0, .int .i64 0, .int .u32 0, .string ⟨#[]⟩])]) (by kernel_rfl) M0.drew (fun _ => ?_)
    have M1 := M0.drew
    refine tk (i := 0) (v := ?_) rfl (some 95) rfl (by kernel_rfl) (by kernel_rfl) (by kernel_rfl) (fun _ _ _ h => h) (Or.inl ⟨by kernel_rfl, ?_⟩) M1 ?_
    rotate_left
    · intro w hS; go_simp; try with_reducible rfl
    try simp only [Act.put, List.setIfInBounds_toArray, List.set_cons_zero, List.set_cons_succ]
    refine tk (i := 1) rfl (some 96) rfl (by kernel_rfl) (by kernel_rfl) (by kernel_rfl) (fun _ _ _ h => h) (yi_cell 0 24 (.tmp 95) rfl (by kernel_rfl) rfl _ rfl (.int .u32 r) Try.underlying24 rfl rfl) M1 ?_
    try simp only [Act.put, List.setIfInBounds_toArray, List.set_cons_zero, List.set_cons_succ]
    refine tk (i := 2) (v := ?_) rfl (some 97) rfl (by kernel_rfl) (by kernel_rfl) (by kernel_rfl) (fun _ _ _ h => h) (Or.inl ⟨by kernel_rfl, ?_⟩) M1 ?_
    rotate_left
    · intro w hS; go_simp; try with_reducible rfl
    try simp only [Act.put, List.setIfInBounds_toArray, List.set_cons_zero, List.set_cons_succ]
    refine tk (i := 4) rfl (some 99) rfl (by kernel_rfl) (by kernel_rfl) (by kernel_rfl) (fun _ _ _ h => h) (yi_row 0 26 (.tmp 4) rfl (by kernel_rfl) rfl rfl Try.underlying26 rfl (by kernel_rfl)) M1 ?_
    try simp only [Act.put, List.setIfInBounds_toArray, List.set_cons_zero, List.set_cons_succ]
    refine wpAnyH_ready (rs := [3, 9]) (by kernel_rfl) (by simp) ?_
    refine br_callR rfl (by kernel_rfl) (some 98) rfl (c26 _) (by kernel_rfl) ?_ ?_
    · rintro _ s2 ⟨g, cap, rfl, hg, hL, hb2⟩
      have M2 := M1.call hb2
      have tab_2 : Tab g (L2 r 4) s2 := ⟨hg, hL⟩
      refine ⟨_, rfl, M2, ?_⟩
      try simp only [Act.put, List.setIfInBounds_toArray, List.set_cons_zero, List.set_cons_succ]
      refine wpAnyH_ready (rs := [5, 9]) (by kernel_rfl) (by simp) ?_
      refine br_call rfl (by kernel_rfl) (some 100) rfl (c25 (cap := cap) tab_2) (by kernel_rfl) (fun w' hb => M2.call hb) (fun s3 hb3 => ?_) ?_
      · have M3 := M2.call hb3
        try simp only [Act.put, List.setIfInBounds_toArray, List.set_cons_zero, List.set_cons_succ]
        refine tk (i := 6) (v := ?_) rfl (some 94) rfl (by kernel_rfl) (by kernel_rfl) (by kernel_rfl) (fun _ _ _ h => h) (Or.inl ⟨by kernel_rfl, ?_⟩) M3 ?_
        rotate_left
        · intro w hS; go_simp; try with_reducible rfl
        try simp only [Act.put, List.setIfInBounds_toArray, List.set_cons_zero, List.set_cons_succ]
        refine tk (i := 7) (v := ?_) rfl (some 101) rfl (by kernel_rfl) (by kernel_rfl) (by kernel_rfl) (fun _ _ _ h => h) (Or.inl ⟨by kernel_rfl, ?_⟩) M3 ?_
        rotate_left
        · intro w hS; go_simp; try with_reducible rfl
        try simp only [Act.put, List.setIfInBounds_toArray, List.set_cons_zero, List.set_cons_succ]
        refine tk (i := 8) (v := ?_) rfl (some 102) rfl (by kernel_rfl) (by kernel_rfl) (by kernel_rfl) (fun _ _ _ h => h) (Or.inl ⟨by kernel_rfl, ?_⟩) M3 ?_
        rotate_left
        · intro w hS; go_simp; try with_reducible rfl
        try simp only [Act.put, List.setIfInBounds_toArray, List.set_cons_zero, List.set_cons_succ]
        refine wpAnyH_ready (rs := [9]) (by kernel_rfl) (by simp) ?_
        refine br_alloc rfl (by kernel_rfl) (some 14) rfl #[.int .i64 0, .int .i64 0, .int .i64 0, .int .i64 0, .int .i64 0] 43 (by kernel_rfl) (M3.alloc _) ?_ ?_
        · have M4 := M3.new rfl 43 #[.int .i64 0, .int .i64 0, .int .i64 0, .int .i64 0, .int .i64 0]
          try simp only [Act.put, List.setIfInBounds_toArray, List.set_cons_zero, List.set_cons_succ]
          refine wpAnyH_ready (rs := [10]) (by kernel_rfl) (by simp) ?_
          refine br_store M4 2 rfl (by kernel_rfl) 43 (.tmp 14) _ rfl rfl rfl rfl _ rfl (by kernel_rfl) (by rfl) (by kernel_rfl) _ rfl (fun w' M' => Mem.init (l := [(w.heap.size, 26, #[.int .i64 k, .int .i64 c, .int .u32 r, .string d]), (w.heap.size + 1, 26, #[.int .i64 0, .int .i64 0, .int .u32 0, .string ⟨#[]⟩])]) M') (fun s5 M5 => ?_) ?_
          · try simp only [List.cons_append, List.nil_append, List.set_cons_zero, List.set_cons_succ] at M5
            try simp only [Act.put, List.setIfInBounds_toArray, List.set_cons_zero, List.set_cons_succ]
            refine tk (i := 11) (v := ?_) rfl (some 15) rfl (by kernel_rfl) (by kernel_rfl) (by kernel_rfl) (fun _ _ _ h => h) (Or.inl ⟨by kernel_rfl, ?_⟩) (Mem.init (l := [(w.heap.size, 26, #[.int .i64 k, .int .i64 c, .int .u32 r, .string d]), (w.heap.size + 1, 26, #[.int .i64 0, .int .i64 0, .int .u32 0, .string ⟨#[]⟩])]) M5) ?_
            rotate_left
            · intro w hS; go_simp; try with_reducible rfl
            try simp only [Act.put, List.setIfInBounds_toArray, List.set_cons_zero, List.set_cons_succ]
            refine wpAnyH_done (by kernel_rfl) ?_ _
            go_wp2_with fail
            go_meet
            case rel => exact ⟨_, rfl, rfl, M5⟩
          exact AllReadyH.nil
        exact AllReadyH.nil
      refine br_alloc rfl (by kernel_rfl) (some 14) rfl #[.int .i64 0, .int .i64 0, .int .i64 0, .int .i64 0, .int .i64 0] 43 (by kernel_rfl) (M2.alloc _) ?_ ?_
      · have M6 := M2.new rfl 43 #[.int .i64 0, .int .i64 0, .int .i64 0, .int .i64 0, .int .i64 0]
        have tab_6 := tab_2.alloc (.cells #[.int .i64 0, .int .i64 0, .int .i64 0, .int .i64 0, .int .i64 0] 43)
        try simp only [Act.put, List.setIfInBounds_toArray, List.set_cons_zero, List.set_cons_succ]
        refine wpAnyH_ready (rs := [5]) (by kernel_rfl) (by simp) ?_
        refine br_call rfl (by kernel_rfl) (some 100) rfl (c25 (cap := cap) tab_6) (by kernel_rfl) (fun w' hb => Mem.init (l := [(w.heap.size, 26, #[.int .i64 k, .int .i64 c, .int .u32 r, .string d]), (w.heap.size + 1, 26, #[.int .i64 0, .int .i64 0, .int .u32 0, .string ⟨#[]⟩])]) (M6.call hb)) (fun s7 hb7 => ?_) ?_
        · have M7 := M6.call hb7
          try simp only [Act.put, List.setIfInBounds_toArray, List.set_cons_zero, List.set_cons_succ]
          refine tk (i := 6) (v := ?_) rfl (some 94) rfl (by kernel_rfl) (by kernel_rfl) (by kernel_rfl) (fun _ _ _ h => h) (Or.inl ⟨by kernel_rfl, ?_⟩) (Mem.init (l := [(w.heap.size, 26, #[.int .i64 k, .int .i64 c, .int .u32 r, .string d]), (w.heap.size + 1, 26, #[.int .i64 0, .int .i64 0, .int .u32 0, .string ⟨#[]⟩])]) M7) ?_
          rotate_left
          · intro w hS; go_simp; try with_reducible rfl
          try simp only [Act.put, List.setIfInBounds_toArray, List.set_cons_zero, List.set_cons_succ]
          refine tk (i := 7) (v := ?_) rfl (some 101) rfl (by kernel_rfl) (by kernel_rfl) (by kernel_rfl) (fun _ _ _ h => h) (Or.inl ⟨by kernel_rfl, ?_⟩) (Mem.init (l := [(w.heap.size, 26, #[.int .i64 k, .int .i64 c, .int .u32 r, .string d]), (w.heap.size + 1, 26, #[.int .i64 0, .int .i64 0, .int .u32 0, .string ⟨#[]⟩])]) M7) ?_
          rotate_left
          · intro w hS; go_simp; try with_reducible rfl
          try simp only [Act.put, List.setIfInBounds_toArray, List.set_cons_zero, List.set_cons_succ]
          refine tk (i := 8) (v := ?_) rfl (some 102) rfl (by kernel_rfl) (by kernel_rfl) (by kernel_rfl) (fun _ _ _ h => h) (Or.inl ⟨by kernel_rfl, ?_⟩) (Mem.init (l := [(w.heap.size, 26, #[.int .i64 k, .int .i64 c, .int .u32 r, .string d]), (w.heap.size + 1, 26, #[.int .i64 0, .int .i64 0, .int .u32 0, .string ⟨#[]⟩])]) M7) ?_
          rotate_left
          · intro w hS; go_simp; try with_reducible rfl
          try simp only [Act.put, List.setIfInBounds_toArray, List.set_cons_zero, List.set_cons_succ]
          refine wpAnyH_ready (rs := [10]) (by kernel_rfl) (by simp) ?_
          refine br_store M7 2 rfl (by kernel_rfl) 43 (.tmp 14) _ rfl rfl rfl rfl _ rfl (by kernel_rfl) (by rfl) (by kernel_rfl) _ rfl (fun w' M' => Mem.init (l := [(w.heap.size, 26, #[.int .i64 k, .int .i64 c, .int .u32 r, .string d]), (w.heap.size + 1, 26, #[.int .i64 0, .int .i64 0, .int .u32 0, .string ⟨#[]⟩])]) M') (fun s8 M8 => ?_) ?_
          · try simp only [List.cons_append, List.nil_append, List.set_cons_zero, List.set_cons_succ] at M8
            try simp only [Act.put, List.setIfInBounds_toArray, List.set_cons_zero, List.set_cons_succ]
            refine tk (i := 11) (v := ?_) rfl (some 15) rfl (by kernel_rfl) (by kernel_rfl) (by kernel_rfl) (fun _ _ _ h => h) (Or.inl ⟨by kernel_rfl, ?_⟩) (Mem.init (l := [(w.heap.size, 26, #[.int .i64 k, .int .i64 c, .int .u32 r, .string d]), (w.heap.size + 1, 26, #[.int .i64 0, .int .i64 0, .int .u32 0, .string ⟨#[]⟩])]) M8) ?_
            rotate_left
            · intro w hS; go_simp; try with_reducible rfl
            try simp only [Act.put, List.setIfInBounds_toArray, List.set_cons_zero, List.set_cons_succ]
            refine wpAnyH_done (by kernel_rfl) ?_ _
            go_wp2_with fail
            go_meet
            case rel => exact ⟨_, rfl, rfl, M8⟩
          exact AllReadyH.nil
        exact AllReadyH.nil
      exact AllReadyH.nil
    refine br_alloc rfl (by kernel_rfl) (some 14) rfl #[.int .i64 0, .int .i64 0, .int .i64 0, .int .i64 0, .int .i64 0] 43 (by kernel_rfl) (M1.alloc _) ?_ ?_
    · have M9 := M1.new rfl 43 #[.int .i64 0, .int .i64 0, .int .i64 0, .int .i64 0, .int .i64 0]
      try simp only [Act.put, List.setIfInBounds_toArray, List.set_cons_zero, List.set_cons_succ]
      refine wpAnyH_ready (rs := [3]) (by kernel_rfl) (by simp) ?_
      refine br_callR rfl (by kernel_rfl) (some 98) rfl (c26 _) (by kernel_rfl) ?_ ?_
      · rintro _ s10 ⟨g, cap, rfl, hg, hL, hb10⟩
        have M10 := M9.call hb10
        have tab_10 : Tab g (L2 r 4) s10 := ⟨hg, hL⟩
        refine ⟨_, rfl, Mem.init (l := [(w.heap.size, 26, #[.int .i64 k, .int .i64 c, .int .u32 r, .string d]), (w.heap.size + 1, 26, #[.int .i64 0, .int .i64 0, .int .u32 0, .string ⟨#[]⟩])]) (M10), ?_⟩
        try simp only [Act.put, List.setIfInBounds_toArray, List.set_cons_zero, List.set_cons_succ]
        refine wpAnyH_ready (rs := [5]) (by kernel_rfl) (by simp) ?_
        refine br_call rfl (by kernel_rfl) (some 100) rfl (c25 (cap := cap) tab_10) (by kernel_rfl) (fun w' hb => Mem.init (l := [(w.heap.size, 26, #[.int .i64 k, .int .i64 c, .int .u32 r, .string d]), (w.heap.size + 1, 26, #[.int .i64 0, .int .i64 0, .int .u32 0, .string ⟨#[]⟩])]) (M10.call hb)) (fun s11 hb11 => ?_) ?_
        · have M11 := M10.call hb11
          try simp only [Act.put, List.setIfInBounds_toArray, List.set_cons_zero, List.set_cons_succ]
          refine tk (i := 6) (v := ?_) rfl (some 94) rfl (by kernel_rfl) (by kernel_rfl) (by kernel_rfl) (fun _ _ _ h => h) (Or.inl ⟨by kernel_rfl, ?_⟩) (Mem.init (l := [(w.heap.size, 26, #[.int .i64 k, .int .i64 c, .int .u32 r, .string d]), (w.heap.size + 1, 26, #[.int .i64 0, .int .i64 0, .int .u32 0, .string ⟨#[]⟩])]) M11) ?_
          rotate_left
          · intro w hS; go_simp; try with_reducible rfl
          try simp only [Act.put, List.setIfInBounds_toArray, List.set_cons_zero, List.set_cons_succ]
          refine tk (i := 7) (v := ?_) rfl (some 101) rfl (by kernel_rfl) (by kernel_rfl) (by kernel_rfl) (fun _ _ _ h => h) (Or.inl ⟨by kernel_rfl, ?_⟩) (Mem.init (l := [(w.heap.size, 26, #[.int .i64 k, .int .i64 c, .int .u32 r, .string d]), (w.heap.size + 1, 26, #[.int .i64 0, .int .i64 0, .int .u32 0, .string ⟨#[]⟩])]) M11) ?_
          rotate_left
          · intro w hS; go_simp; try with_reducible rfl
          try simp only [Act.put, List.setIfInBounds_toArray, List.set_cons_zero, List.set_cons_succ]
          refine tk (i := 8) (v := ?_) rfl (some 102) rfl (by kernel_rfl) (by kernel_rfl) (by kernel_rfl) (fun _ _ _ h => h) (Or.inl ⟨by kernel_rfl, ?_⟩) (Mem.init (l := [(w.heap.size, 26, #[.int .i64 k, .int .i64 c, .int .u32 r, .string d]), (w.heap.size + 1, 26, #[.int .i64 0, .int .i64 0, .int .u32 0, .string ⟨#[]⟩])]) M11) ?_
          rotate_left
          · intro w hS; go_simp; try with_reducible rfl
          try simp only [Act.put, List.setIfInBounds_toArray, List.set_cons_zero, List.set_cons_succ]
          refine wpAnyH_ready (rs := [10]) (by kernel_rfl) (by simp) ?_
          refine br_store M11 2 rfl (by kernel_rfl) 43 (.tmp 14) _ rfl rfl rfl rfl _ rfl (by kernel_rfl) (by rfl) (by kernel_rfl) _ rfl (fun w' M' => Mem.init (l := [(w.heap.size, 26, #[.int .i64 k, .int .i64 c, .int .u32 r, .string d]), (w.heap.size + 1, 26, #[.int .i64 0, .int .i64 0, .int .u32 0, .string ⟨#[]⟩])]) M') (fun s12 M12 => ?_) ?_
          · try simp only [List.cons_append, List.nil_append, List.set_cons_zero, List.set_cons_succ] at M12
            try simp only [Act.put, List.setIfInBounds_toArray, List.set_cons_zero, List.set_cons_succ]
            refine tk (i := 11) (v := ?_) rfl (some 15) rfl (by kernel_rfl) (by kernel_rfl) (by kernel_rfl) (fun _ _ _ h => h) (Or.inl ⟨by kernel_rfl, ?_⟩) (Mem.init (l := [(w.heap.size, 26, #[.int .i64 k, .int .i64 c, .int .u32 r, .string d]), (w.heap.size + 1, 26, #[.int .i64 0, .int .i64 0, .int .u32 0, .string ⟨#[]⟩])]) M12) ?_
            rotate_left
            · intro w hS; go_simp; try with_reducible rfl
            try simp only [Act.put, List.setIfInBounds_toArray, List.set_cons_zero, List.set_cons_succ]
            refine wpAnyH_done (by kernel_rfl) ?_ _
            go_wp2_with fail
            go_meet
            case rel => exact ⟨_, rfl, rfl, M12⟩
          exact AllReadyH.nil
        exact AllReadyH.nil
      exact AllReadyH.nil
    exact AllReadyH.nil
  case rest =>
    obtain ⟨gz, rfl, rfl, MZ⟩ := hcut
    clear M0
    go_upto_region 22 with fail
    refine wp_region_lit ?_
    refine lv (by kernel_rfl) (some 103) rfl (v := ?_) ?_ ?_
    rotate_left
    · go_simp; try with_reducible rfl
    try simp only [Act.put, List.setIfInBounds_toArray, List.set_cons_zero, List.set_cons_succ]
    refine lv (by kernel_rfl) (some 104) rfl (v := ?_) ?_ ?_
    rotate_left
    · go_simp; try with_reducible rfl
    try simp only [Act.put, List.setIfInBounds_toArray, List.set_cons_zero, List.set_cons_succ]
    refine wpList_nil ?_
    go_upto_region 23 with fail
    refine wp_region_lit ?_
    refine lv (by kernel_rfl) (some 105) rfl (v := ?_) ?_ ?_
    rotate_left
    · go_simp; try with_reducible rfl
    try simp only [Act.put, List.setIfInBounds_toArray, List.set_cons_zero, List.set_cons_succ]
    refine l_store MZ 1 (by kernel_rfl) 26 (.tmp 8) _ rfl rfl rfl rfl _ rfl (by kernel_rfl) (by rfl) (by kernel_rfl) _ rfl (fun t13 M13 => ?_)
    clear MZ
    try simp only [List.cons_append, List.nil_append, List.set_cons_zero, List.set_cons_succ] at M13
    try simp only [Act.put, List.setIfInBounds_toArray, List.set_cons_zero, List.set_cons_succ]
    refine lv (by kernel_rfl) (some 9) rfl (v := ?_) ?_ ?_
    rotate_left
    · go_simp; try with_reducible rfl
    try simp only [Act.put, List.setIfInBounds_toArray, List.set_cons_zero, List.set_cons_succ]
    refine wpList_nil ?_
    go_wp2_with fail
    exact bodyPost_ret (v := retM (none) d) (results_cell_tmp rfl (M13.row (i := 1) rfl) _ rfl _ rfl Try.underlying26 rfl (by kernel_rfl)) rfl ⟨rfl, M13.below⟩
set_option maxRecDepth 100000 in
set_option maxHeartbeats 4000000 in
theorem rto6_t1 (k c r x y z : Int) (d : ByteArray) (a b n : Int) (w : World) (hs : Sides a b) (hwr : IntKind.i64.wrap r = r) (h3 : (k == 3) = true) (h4 : (c == 4) = false) (h12 : (k == 12) = false) (hf : fnd k c (L2 r 4) = some (x, y, z)) (hz : IntKind.u32.wrap z = z) :
    Calls Try.prog 15 #[msgV k c r d, .int .i64 a, .int .i64 b, .int .i64 n] w fun e w' => e = .returned (retM (some (x, y, z)) d) ∧ Below w.heap.size w w' := by
  have c24 := fun w => rbounds_t a b w hs
  clear hs
  have c26 := fun w => lines6_any r w
  have c25 : ∀ {g cap : Nat} {w : World}, Tab g (L2 r 4) w → Calls Try.prog 25 #[.slice (some ⟨g, 0, none⟩) 18 cap, msgV k c r d] w fun e w' => e = .returned (.tuple #[.agg #[.int .i64 k, .int .i64 c, .int .i64 x, .int .i64 y, .int .i64 z], .bool true]) ∧ Below w.heap.size w w' := fun {g cap} {w} t => find_tab (cap := cap) (r := r) (d := d) hf (L2_len r) (by omega) t
  clear hf
  go_enter Try.func15, Try.ntmps15
  go_upto_region 1 with fail
  have M0 := Mem.two w 26 26 #[.int .i64 k, .int .i64 c, .int .u32 r, .string d] #[.int .i64 0, .int .i64 0, .int .u32 0, .string ⟨#[]⟩]
  refine wp_region_lit ?_
  refine lv (by kernel_rfl) (some 16) rfl (v := ?_) ?_ ?_
  rotate_left
  · go_simp; try with_reducible rfl
  try simp only [Act.put, List.setIfInBounds_toArray, List.set_cons_zero, List.set_cons_succ]
  refine lv (by kernel_rfl) (some 17) rfl (v := ?_) ?_ ?_
  rotate_left
  · go_simp; try with_reducible rfl
  try simp only [Act.put, List.setIfInBounds_toArray, List.set_cons_zero, List.set_cons_succ]
  refine l_same (by kernel_rfl) (some 18) rfl (c24 _) (by kernel_rfl) ?_
  try simp only [Act.put, List.setIfInBounds_toArray, List.set_cons_zero, List.set_cons_succ]
  refine lv (by kernel_rfl) (some 19) rfl (v := ?_) ?_ ?_
  rotate_left
  · go_simp; try with_reducible rfl
  try simp only [Act.put, List.setIfInBounds_toArray, List.set_cons_zero, List.set_cons_succ]
  refine wpList_nil ?_
  go_upto_region 3 with fail
  refine wp_region_lit ?_
  refine lv (by kernel_rfl) (some 21) rfl (v := ?_) ?_ ?_
  rotate_left
  · go_simp; try with_reducible rfl
  try simp only [Act.put, List.setIfInBounds_toArray, List.set_cons_zero, List.set_cons_succ]
  refine ly M0 (some 22) rfl (yi_cell 0 3 (.tmp 21) rfl (by kernel_rfl) rfl _ rfl (.int .i64 k) Try.underlying3 rfl rfl) ?_
  try simp only [Act.put, List.setIfInBounds_toArray, List.set_cons_zero, List.set_cons_succ]
  refine lv (by kernel_rfl) (some 23) rfl (v := ?_) ?_ ?_
  rotate_left
  · go_simp; try with_reducible rfl
  try simp only [Act.put, List.setIfInBounds_toArray, List.set_cons_zero, List.set_cons_succ]
  refine lv (by kernel_rfl) (some 24) rfl (v := ?_) ?_ ?_
  rotate_left
  · go_simp; try with_reducible rfl
  try simp only [Act.put, List.setIfInBounds_toArray, List.set_cons_zero, List.set_cons_succ]
  refine lv (by kernel_rfl) (some 25) rfl (v := ?_) ?_ ?_
  rotate_left
  · go_simp; try with_reducible rfl
  try simp only [Act.put, List.setIfInBounds_toArray, List.set_cons_zero, List.set_cons_succ]
  refine ly M0 (some 26) rfl (yi_cell 0 3 (.tmp 25) rfl (by kernel_rfl) rfl _ rfl (.int .i64 c) Try.underlying3 rfl rfl) ?_
  try simp only [Act.put, List.setIfInBounds_toArray, List.set_cons_zero, List.set_cons_succ]
  refine lv (by kernel_rfl) (some 27) rfl (v := ?_) ?_ ?_
  rotate_left
  · go_simp; try with_reducible rfl
  try simp only [Act.put, List.setIfInBounds_toArray, List.set_cons_zero, List.set_cons_succ]
  refine lv (by kernel_rfl) (some 28) rfl (v := ?_) ?_ ?_
  rotate_left
  · go_simp; try with_reducible rfl
  try simp only [Act.put, List.setIfInBounds_toArray, List.set_cons_zero, List.set_cons_succ]
  refine wpList_nil ?_
  go_upto_region 15 with fail
  refine wp_region_lit ?_
  refine lv (by kernel_rfl) (some 56) rfl (v := ?_) ?_ ?_
  rotate_left
  · go_simp; try with_reducible rfl
  try simp only [Act.put, List.setIfInBounds_toArray, List.set_cons_zero, List.set_cons_succ]
  refine ly M0 (some 57) rfl (yi_cell 0 3 (.tmp 56) rfl (by kernel_rfl) rfl _ rfl (.int .i64 k) Try.underlying3 rfl rfl) ?_
  try simp only [Act.put, List.setIfInBounds_toArray, List.set_cons_zero, List.set_cons_succ]
  refine lv (by kernel_rfl) (some 58) rfl (v := ?_) ?_ ?_
  rotate_left
  · go_simp; try with_reducible rfl
  try simp only [Act.put, List.setIfInBounds_toArray, List.set_cons_zero, List.set_cons_succ]
  refine lv (by kernel_rfl) (some 59) rfl (v := ?_) ?_ ?_
  rotate_left
  · go_simp; try with_reducible rfl
  try simp only [Act.put, List.setIfInBounds_toArray, List.set_cons_zero, List.set_cons_succ]
  with_reducible refine lu (by kernel_rfl) (some 60) rfl ?_
  try simp only [Act.put, List.setIfInBounds_toArray, List.set_cons_zero, List.set_cons_succ]
  with_reducible refine lu (by kernel_rfl) (some 61) rfl ?_
  try simp only [Act.put, List.setIfInBounds_toArray, List.set_cons_zero, List.set_cons_succ]
  with_reducible refine lu (by kernel_rfl) (some 62) rfl ?_
  try simp only [Act.put, List.setIfInBounds_toArray, List.set_cons_zero, List.set_cons_succ]
  with_reducible refine lu (by kernel_rfl) (some 63) rfl ?_
  try simp only [Act.put, List.setIfInBounds_toArray, List.set_cons_zero, List.set_cons_succ]
  with_reducible refine lu (by kernel_rfl) (some 64) rfl ?_
  try simp only [Act.put, List.setIfInBounds_toArray, List.set_cons_zero, List.set_cons_succ]
  with_reducible refine lu (by kernel_rfl) (some 65) rfl ?_
  try simp only [Act.put, List.setIfInBounds_toArray, List.set_cons_zero, List.set_cons_succ]
  with_reducible refine lu (by kernel_rfl) (some 66) rfl ?_
  try simp only [Act.put, List.setIfInBounds_toArray, List.set_cons_zero, List.set_cons_succ]
  with_reducible refine lu (by kernel_rfl) (some 67) rfl ?_
  try simp only [Act.put, List.setIfInBounds_toArray, List.set_cons_zero, List.set_cons_succ]
  refine lv (by kernel_rfl) (some 68) rfl (v := ?_) ?_ ?_
  rotate_left
  · go_simp; try with_reducible rfl
  try simp only [Act.put, List.setIfInBounds_toArray, List.set_cons_zero, List.set_cons_succ]
  refine wpList_nil ?_
  go_upto_region 21 with fail
  go_cut [14, 15] (fun s t wz => ∃ gz, s = .pointer (some ⟨gz, 0, none⟩) ∧ t = .bool true ∧ Mem w wz [(w.heap.size, 26, #[.int .i64 k, .int .i64 c, .int .u32 r, .string d]), (w.heap.size + 1, 26, #[.int .i64 0, .int .i64 0, .int .u32 0, .string ⟨#[]⟩]), (gz, 43, #[.int .i64 k, .int .i64 c, .int .i64 x, .int .i64 y, .int .i64 z])])
  case first =>
    refine wp_region_held_drew (S := fun w' => Mem w w' [(w.heap.size, 26, #[.int .i64 k, .int .i64 c, .int .u32 r, .string d]), (w.heap.size + 1, 26, #[.int .i64 0, .int .i64 0, .int .u32 0, .string ⟨#[]⟩])]) (by kernel_rfl) M0.drew (fun _ => ?_)
    have M1 := M0.drew
    refine tk (i := 0) (v := ?_) rfl (some 95) rfl (by kernel_rfl) (by kernel_rfl) (by kernel_rfl) (fun _ _ _ h => h) (Or.inl ⟨by kernel_rfl, ?_⟩) M1 ?_
    rotate_left
    · intro w hS; go_simp; try with_reducible rfl
    try simp only [Act.put, List.setIfInBounds_toArray, List.set_cons_zero, List.set_cons_succ]
    refine tk (i := 1) rfl (some 96) rfl (by kernel_rfl) (by kernel_rfl) (by kernel_rfl) (fun _ _ _ h => h) (yi_cell 0 24 (.tmp 95) rfl (by kernel_rfl) rfl _ rfl (.int .u32 r) Try.underlying24 rfl rfl) M1 ?_
    try simp only [Act.put, List.setIfInBounds_toArray, List.set_cons_zero, List.set_cons_succ]
    refine tk (i := 2) (v := ?_) rfl (some 97) rfl (by kernel_rfl) (by kernel_rfl) (by kernel_rfl) (fun _ _ _ h => h) (Or.inl ⟨by kernel_rfl, ?_⟩) M1 ?_
    rotate_left
    · intro w hS; go_simp; try with_reducible rfl
    try simp only [Act.put, List.setIfInBounds_toArray, List.set_cons_zero, List.set_cons_succ]
    refine tk (i := 4) rfl (some 99) rfl (by kernel_rfl) (by kernel_rfl) (by kernel_rfl) (fun _ _ _ h => h) (yi_row 0 26 (.tmp 4) rfl (by kernel_rfl) rfl rfl Try.underlying26 rfl (by kernel_rfl)) M1 ?_
    try simp only [Act.put, List.setIfInBounds_toArray, List.set_cons_zero, List.set_cons_succ]
    refine wpAnyH_ready (rs := [3, 9]) (by kernel_rfl) (by simp) ?_
    refine br_callR rfl (by kernel_rfl) (some 98) rfl (c26 _) (by kernel_rfl) ?_ ?_
    · rintro _ s2 ⟨g, cap, rfl, hg, hL, hb2⟩
      have M2 := M1.call hb2
      have tab_2 : Tab g (L2 r 4) s2 := ⟨hg, hL⟩
      refine ⟨_, rfl, M2, ?_⟩
      try simp only [Act.put, List.setIfInBounds_toArray, List.set_cons_zero, List.set_cons_succ]
      refine wpAnyH_ready (rs := [5, 9]) (by kernel_rfl) (by simp) ?_
      refine br_call rfl (by kernel_rfl) (some 100) rfl (c25 (cap := cap) tab_2) (by kernel_rfl) (fun w' hb => M2.call hb) (fun s3 hb3 => ?_) ?_
      · have M3 := M2.call hb3
        try simp only [Act.put, List.setIfInBounds_toArray, List.set_cons_zero, List.set_cons_succ]
        refine tk (i := 6) (v := ?_) rfl (some 94) rfl (by kernel_rfl) (by kernel_rfl) (by kernel_rfl) (fun _ _ _ h => h) (Or.inl ⟨by kernel_rfl, ?_⟩) M3 ?_
        rotate_left
        · intro w hS; go_simp; try with_reducible rfl
        try simp only [Act.put, List.setIfInBounds_toArray, List.set_cons_zero, List.set_cons_succ]
        refine tk (i := 7) (v := ?_) rfl (some 101) rfl (by kernel_rfl) (by kernel_rfl) (by kernel_rfl) (fun _ _ _ h => h) (Or.inl ⟨by kernel_rfl, ?_⟩) M3 ?_
        rotate_left
        · intro w hS; go_simp; try with_reducible rfl
        try simp only [Act.put, List.setIfInBounds_toArray, List.set_cons_zero, List.set_cons_succ]
        refine tk (i := 8) (v := ?_) rfl (some 102) rfl (by kernel_rfl) (by kernel_rfl) (by kernel_rfl) (fun _ _ _ h => h) (Or.inl ⟨by kernel_rfl, ?_⟩) M3 ?_
        rotate_left
        · intro w hS; go_simp; try with_reducible rfl
        try simp only [Act.put, List.setIfInBounds_toArray, List.set_cons_zero, List.set_cons_succ]
        refine wpAnyH_ready (rs := [9]) (by kernel_rfl) (by simp) ?_
        refine br_alloc rfl (by kernel_rfl) (some 14) rfl #[.int .i64 0, .int .i64 0, .int .i64 0, .int .i64 0, .int .i64 0] 43 (by kernel_rfl) (M3.alloc _) ?_ ?_
        · have M4 := M3.new rfl 43 #[.int .i64 0, .int .i64 0, .int .i64 0, .int .i64 0, .int .i64 0]
          try simp only [Act.put, List.setIfInBounds_toArray, List.set_cons_zero, List.set_cons_succ]
          refine wpAnyH_ready (rs := [10]) (by kernel_rfl) (by simp) ?_
          refine br_store M4 2 rfl (by kernel_rfl) 43 (.tmp 14) _ rfl rfl rfl rfl _ rfl (by kernel_rfl) (by rfl) (by kernel_rfl) _ rfl (fun w' M' => Mem.init (l := [(w.heap.size, 26, #[.int .i64 k, .int .i64 c, .int .u32 r, .string d]), (w.heap.size + 1, 26, #[.int .i64 0, .int .i64 0, .int .u32 0, .string ⟨#[]⟩])]) M') (fun s5 M5 => ?_) ?_
          · try simp only [List.cons_append, List.nil_append, List.set_cons_zero, List.set_cons_succ] at M5
            try simp only [Act.put, List.setIfInBounds_toArray, List.set_cons_zero, List.set_cons_succ]
            refine tk (i := 11) (v := ?_) rfl (some 15) rfl (by kernel_rfl) (by kernel_rfl) (by kernel_rfl) (fun _ _ _ h => h) (Or.inl ⟨by kernel_rfl, ?_⟩) (Mem.init (l := [(w.heap.size, 26, #[.int .i64 k, .int .i64 c, .int .u32 r, .string d]), (w.heap.size + 1, 26, #[.int .i64 0, .int .i64 0, .int .u32 0, .string ⟨#[]⟩])]) M5) ?_
            rotate_left
            · intro w hS; go_simp; try with_reducible rfl
            try simp only [Act.put, List.setIfInBounds_toArray, List.set_cons_zero, List.set_cons_succ]
            refine wpAnyH_done (by kernel_rfl) ?_ _
            go_wp2_with fail
            go_meet
            case rel => exact ⟨_, rfl, rfl, M5⟩
          exact AllReadyH.nil
        exact AllReadyH.nil
      refine br_alloc rfl (by kernel_rfl) (some 14) rfl #[.int .i64 0, .int .i64 0, .int .i64 0, .int .i64 0, .int .i64 0] 43 (by kernel_rfl) (M2.alloc _) ?_ ?_
      · have M6 := M2.new rfl 43 #[.int .i64 0, .int .i64 0, .int .i64 0, .int .i64 0, .int .i64 0]
        have tab_6 := tab_2.alloc (.cells #[.int .i64 0, .int .i64 0, .int .i64 0, .int .i64 0, .int .i64 0] 43)
        try simp only [Act.put, List.setIfInBounds_toArray, List.set_cons_zero, List.set_cons_succ]
        refine wpAnyH_ready (rs := [5]) (by kernel_rfl) (by simp) ?_
        refine br_call rfl (by kernel_rfl) (some 100) rfl (c25 (cap := cap) tab_6) (by kernel_rfl) (fun w' hb => Mem.init (l := [(w.heap.size, 26, #[.int .i64 k, .int .i64 c, .int .u32 r, .string d]), (w.heap.size + 1, 26, #[.int .i64 0, .int .i64 0, .int .u32 0, .string ⟨#[]⟩])]) (M6.call hb)) (fun s7 hb7 => ?_) ?_
        · have M7 := M6.call hb7
          try simp only [Act.put, List.setIfInBounds_toArray, List.set_cons_zero, List.set_cons_succ]
          refine tk (i := 6) (v := ?_) rfl (some 94) rfl (by kernel_rfl) (by kernel_rfl) (by kernel_rfl) (fun _ _ _ h => h) (Or.inl ⟨by kernel_rfl, ?_⟩) (Mem.init (l := [(w.heap.size, 26, #[.int .i64 k, .int .i64 c, .int .u32 r, .string d]), (w.heap.size + 1, 26, #[.int .i64 0, .int .i64 0, .int .u32 0, .string ⟨#[]⟩])]) M7) ?_
          rotate_left
          · intro w hS; go_simp; try with_reducible rfl
          try simp only [Act.put, List.setIfInBounds_toArray, List.set_cons_zero, List.set_cons_succ]
          refine tk (i := 7) (v := ?_) rfl (some 101) rfl (by kernel_rfl) (by kernel_rfl) (by kernel_rfl) (fun _ _ _ h => h) (Or.inl ⟨by kernel_rfl, ?_⟩) (Mem.init (l := [(w.heap.size, 26, #[.int .i64 k, .int .i64 c, .int .u32 r, .string d]), (w.heap.size + 1, 26, #[.int .i64 0, .int .i64 0, .int .u32 0, .string ⟨#[]⟩])]) M7) ?_
          rotate_left
          · intro w hS; go_simp; try with_reducible rfl
          try simp only [Act.put, List.setIfInBounds_toArray, List.set_cons_zero, List.set_cons_succ]
          refine tk (i := 8) (v := ?_) rfl (some 102) rfl (by kernel_rfl) (by kernel_rfl) (by kernel_rfl) (fun _ _ _ h => h) (Or.inl ⟨by kernel_rfl, ?_⟩) (Mem.init (l := [(w.heap.size, 26, #[.int .i64 k, .int .i64 c, .int .u32 r, .string d]), (w.heap.size + 1, 26, #[.int .i64 0, .int .i64 0, .int .u32 0, .string ⟨#[]⟩])]) M7) ?_
          rotate_left
          · intro w hS; go_simp; try with_reducible rfl
          try simp only [Act.put, List.setIfInBounds_toArray, List.set_cons_zero, List.set_cons_succ]
          refine wpAnyH_ready (rs := [10]) (by kernel_rfl) (by simp) ?_
          refine br_store M7 2 rfl (by kernel_rfl) 43 (.tmp 14) _ rfl rfl rfl rfl _ rfl (by kernel_rfl) (by rfl) (by kernel_rfl) _ rfl (fun w' M' => Mem.init (l := [(w.heap.size, 26, #[.int .i64 k, .int .i64 c, .int .u32 r, .string d]), (w.heap.size + 1, 26, #[.int .i64 0, .int .i64 0, .int .u32 0, .string ⟨#[]⟩])]) M') (fun s8 M8 => ?_) ?_
          · try simp only [List.cons_append, List.nil_append, List.set_cons_zero, List.set_cons_succ] at M8
            try simp only [Act.put, List.setIfInBounds_toArray, List.set_cons_zero, List.set_cons_succ]
            refine tk (i := 11) (v := ?_) rfl (some 15) rfl (by kernel_rfl) (by kernel_rfl) (by kernel_rfl) (fun _ _ _ h => h) (Or.inl ⟨by kernel_rfl, ?_⟩) (Mem.init (l := [(w.heap.size, 26, #[.int .i64 k, .int .i64 c, .int .u32 r, .string d]), (w.heap.size + 1, 26, #[.int .i64 0, .int .i64 0, .int .u32 0, .string ⟨#[]⟩])]) M8) ?_
            rotate_left
            · intro w hS; go_simp; try with_reducible rfl
            try simp only [Act.put, List.setIfInBounds_toArray, List.set_cons_zero, List.set_cons_succ]
            refine wpAnyH_done (by kernel_rfl) ?_ _
            go_wp2_with fail
            go_meet
            case rel => exact ⟨_, rfl, rfl, M8⟩
          exact AllReadyH.nil
        exact AllReadyH.nil
      exact AllReadyH.nil
    refine br_alloc rfl (by kernel_rfl) (some 14) rfl #[.int .i64 0, .int .i64 0, .int .i64 0, .int .i64 0, .int .i64 0] 43 (by kernel_rfl) (M1.alloc _) ?_ ?_
    · have M9 := M1.new rfl 43 #[.int .i64 0, .int .i64 0, .int .i64 0, .int .i64 0, .int .i64 0]
      try simp only [Act.put, List.setIfInBounds_toArray, List.set_cons_zero, List.set_cons_succ]
      refine wpAnyH_ready (rs := [3]) (by kernel_rfl) (by simp) ?_
      refine br_callR rfl (by kernel_rfl) (some 98) rfl (c26 _) (by kernel_rfl) ?_ ?_
      · rintro _ s10 ⟨g, cap, rfl, hg, hL, hb10⟩
        have M10 := M9.call hb10
        have tab_10 : Tab g (L2 r 4) s10 := ⟨hg, hL⟩
        refine ⟨_, rfl, Mem.init (l := [(w.heap.size, 26, #[.int .i64 k, .int .i64 c, .int .u32 r, .string d]), (w.heap.size + 1, 26, #[.int .i64 0, .int .i64 0, .int .u32 0, .string ⟨#[]⟩])]) (M10), ?_⟩
        try simp only [Act.put, List.setIfInBounds_toArray, List.set_cons_zero, List.set_cons_succ]
        refine wpAnyH_ready (rs := [5]) (by kernel_rfl) (by simp) ?_
        refine br_call rfl (by kernel_rfl) (some 100) rfl (c25 (cap := cap) tab_10) (by kernel_rfl) (fun w' hb => Mem.init (l := [(w.heap.size, 26, #[.int .i64 k, .int .i64 c, .int .u32 r, .string d]), (w.heap.size + 1, 26, #[.int .i64 0, .int .i64 0, .int .u32 0, .string ⟨#[]⟩])]) (M10.call hb)) (fun s11 hb11 => ?_) ?_
        · have M11 := M10.call hb11
          try simp only [Act.put, List.setIfInBounds_toArray, List.set_cons_zero, List.set_cons_succ]
          refine tk (i := 6) (v := ?_) rfl (some 94) rfl (by kernel_rfl) (by kernel_rfl) (by kernel_rfl) (fun _ _ _ h => h) (Or.inl ⟨by kernel_rfl, ?_⟩) (Mem.init (l := [(w.heap.size, 26, #[.int .i64 k, .int .i64 c, .int .u32 r, .string d]), (w.heap.size + 1, 26, #[.int .i64 0, .int .i64 0, .int .u32 0, .string ⟨#[]⟩])]) M11) ?_
          rotate_left
          · intro w hS; go_simp; try with_reducible rfl
          try simp only [Act.put, List.setIfInBounds_toArray, List.set_cons_zero, List.set_cons_succ]
          refine tk (i := 7) (v := ?_) rfl (some 101) rfl (by kernel_rfl) (by kernel_rfl) (by kernel_rfl) (fun _ _ _ h => h) (Or.inl ⟨by kernel_rfl, ?_⟩) (Mem.init (l := [(w.heap.size, 26, #[.int .i64 k, .int .i64 c, .int .u32 r, .string d]), (w.heap.size + 1, 26, #[.int .i64 0, .int .i64 0, .int .u32 0, .string ⟨#[]⟩])]) M11) ?_
          rotate_left
          · intro w hS; go_simp; try with_reducible rfl
          try simp only [Act.put, List.setIfInBounds_toArray, List.set_cons_zero, List.set_cons_succ]
          refine tk (i := 8) (v := ?_) rfl (some 102) rfl (by kernel_rfl) (by kernel_rfl) (by kernel_rfl) (fun _ _ _ h => h) (Or.inl ⟨by kernel_rfl, ?_⟩) (Mem.init (l := [(w.heap.size, 26, #[.int .i64 k, .int .i64 c, .int .u32 r, .string d]), (w.heap.size + 1, 26, #[.int .i64 0, .int .i64 0, .int .u32 0, .string ⟨#[]⟩])]) M11) ?_
          rotate_left
          · intro w hS; go_simp; try with_reducible rfl
          try simp only [Act.put, List.setIfInBounds_toArray, List.set_cons_zero, List.set_cons_succ]
          refine wpAnyH_ready (rs := [10]) (by kernel_rfl) (by simp) ?_
          refine br_store M11 2 rfl (by kernel_rfl) 43 (.tmp 14) _ rfl rfl rfl rfl _ rfl (by kernel_rfl) (by rfl) (by kernel_rfl) _ rfl (fun w' M' => Mem.init (l := [(w.heap.size, 26, #[.int .i64 k, .int .i64 c, .int .u32 r, .string d]), (w.heap.size + 1, 26, #[.int .i64 0, .int .i64 0, .int .u32 0, .string ⟨#[]⟩])]) M') (fun s12 M12 => ?_) ?_
          · try simp only [List.cons_append, List.nil_append, List.set_cons_zero, List.set_cons_succ] at M12
            try simp only [Act.put, List.setIfInBounds_toArray, List.set_cons_zero, List.set_cons_succ]
            refine tk (i := 11) (v := ?_) rfl (some 15) rfl (by kernel_rfl) (by kernel_rfl) (by kernel_rfl) (fun _ _ _ h => h) (Or.inl ⟨by kernel_rfl, ?_⟩) (Mem.init (l := [(w.heap.size, 26, #[.int .i64 k, .int .i64 c, .int .u32 r, .string d]), (w.heap.size + 1, 26, #[.int .i64 0, .int .i64 0, .int .u32 0, .string ⟨#[]⟩])]) M12) ?_
            rotate_left
            · intro w hS; go_simp; try with_reducible rfl
            try simp only [Act.put, List.setIfInBounds_toArray, List.set_cons_zero, List.set_cons_succ]
            refine wpAnyH_done (by kernel_rfl) ?_ _
            go_wp2_with fail
            go_meet
            case rel => exact ⟨_, rfl, rfl, M12⟩
          exact AllReadyH.nil
        exact AllReadyH.nil
      exact AllReadyH.nil
    exact AllReadyH.nil
  case rest =>
    obtain ⟨gz, rfl, rfl, MZ⟩ := hcut
    clear M0
    go_upto_region 22 with fail
    refine wp_region_lit ?_
    refine lv (by kernel_rfl) (some 103) rfl (v := ?_) ?_ ?_
    rotate_left
    · go_simp; try with_reducible rfl
    try simp only [Act.put, List.setIfInBounds_toArray, List.set_cons_zero, List.set_cons_succ]
    refine lv (by kernel_rfl) (some 104) rfl (v := ?_) ?_ ?_
    rotate_left
    · go_simp; try with_reducible rfl
    try simp only [Act.put, List.setIfInBounds_toArray, List.set_cons_zero, List.set_cons_succ]
    refine wpList_nil ?_
    go_upto_region 24 with fail
    refine wp_region_lit ?_
    refine lv (by kernel_rfl) (some 106) rfl (v := ?_) ?_ ?_
    rotate_left
    · go_simp; try with_reducible rfl
    try simp only [Act.put, List.setIfInBounds_toArray, List.set_cons_zero, List.set_cons_succ]
    refine ly MZ (some 107) rfl (yi_cell 2 3 (.tmp 106) rfl (by kernel_rfl) rfl _ rfl (.int .i64 x) Try.underlying3 rfl rfl) ?_
    try simp only [Act.put, List.setIfInBounds_toArray, List.set_cons_zero, List.set_cons_succ]
    refine lv (by kernel_rfl) (some 108) rfl (v := ?_) ?_ ?_
    rotate_left
    · go_simp; try with_reducible rfl
    try simp only [Act.put, List.setIfInBounds_toArray, List.set_cons_zero, List.set_cons_succ]
    refine ly MZ (some 109) rfl (yi_cell 2 3 (.tmp 108) rfl (by kernel_rfl) rfl _ rfl (.int .i64 y) Try.underlying3 rfl rfl) ?_
    try simp only [Act.put, List.setIfInBounds_toArray, List.set_cons_zero, List.set_cons_succ]
    refine lv (by kernel_rfl) (some 110) rfl (v := ?_) ?_ ?_
    rotate_left
    · go_simp; try with_reducible rfl
    try simp only [Act.put, List.setIfInBounds_toArray, List.set_cons_zero, List.set_cons_succ]
    refine ly MZ (some 111) rfl (yi_cell 2 3 (.tmp 110) rfl (by kernel_rfl) rfl _ rfl (.int .i64 z) Try.underlying3 rfl rfl) ?_
    try simp only [Act.put, List.setIfInBounds_toArray, List.set_cons_zero, List.set_cons_succ]
    refine lv (by kernel_rfl) (some 112) rfl (v := ?_) ?_ ?_
    rotate_left
    · go_simp; try with_reducible rfl
    try simp only [Act.put, List.setIfInBounds_toArray, List.set_cons_zero, List.set_cons_succ]
    refine lv (by kernel_rfl) (some 113) rfl (v := ?_) ?_ ?_
    rotate_left
    · go_simp; try with_reducible rfl
    try simp only [Act.put, List.setIfInBounds_toArray, List.set_cons_zero, List.set_cons_succ]
    refine ly MZ (some 114) rfl (yi_cell 0 9 (.tmp 113) rfl (by kernel_rfl) rfl _ rfl (.string d) Try.underlying9 rfl rfl) ?_
    try simp only [Act.put, List.setIfInBounds_toArray, List.set_cons_zero, List.set_cons_succ]
    refine lv (by kernel_rfl) (some 115) rfl (v := ?_) ?_ ?_
    rotate_left
    · go_simp; try with_reducible rfl
    try simp only [Act.put, List.setIfInBounds_toArray, List.set_cons_zero, List.set_cons_succ]
    refine l_store MZ 1 (by kernel_rfl) 26 (.tmp 8) _ rfl rfl rfl rfl _ rfl (by kernel_rfl) (by rfl) (by kernel_rfl) _ rfl (fun t13 M13 => ?_)
    clear MZ
    try simp only [List.cons_append, List.nil_append, List.set_cons_zero, List.set_cons_succ] at M13
    try simp only [Act.put, List.setIfInBounds_toArray, List.set_cons_zero, List.set_cons_succ]
    refine lv (by kernel_rfl) (some 9) rfl (v := ?_) ?_ ?_
    rotate_left
    · go_simp; try with_reducible rfl
    try simp only [Act.put, List.setIfInBounds_toArray, List.set_cons_zero, List.set_cons_succ]
    refine wpList_nil ?_
    go_wp2_with fail
    exact bodyPost_ret (v := retM (some (x, y, z)) d) (results_cell_tmp rfl (M13.row (i := 1) rfl) _ rfl _ rfl Try.underlying26 rfl (by kernel_rfl)) rfl ⟨rfl, M13.below⟩
set_option maxRecDepth 100000 in
set_option maxHeartbeats 4000000 in
theorem rto6_p0 (k c r : Int) (d : ByteArray) (a b n : Int) (w : World) (hs : Sides a b) (hwr : IntKind.i64.wrap r = r) (h3 : (k == 3) = false) (h12 : (k == 12) = true) (h0 : (c == 0) = false) (h2 : (c == 2) = false) (hf : fnd k c (L2 r 4) = none) :
    Calls Try.prog 15 #[msgV k c r d, .int .i64 a, .int .i64 b, .int .i64 n] w fun e w' => e = .returned (retM (none) d) ∧ Below w.heap.size w w' := by
  have c24 := fun w => rbounds_t a b w hs
  clear hs
  have c26 := fun w => lines6_any r w
  have c25 : ∀ {g cap : Nat} {w : World}, Tab g (L2 r 4) w → Calls Try.prog 25 #[.slice (some ⟨g, 0, none⟩) 18 cap, msgV k c r d] w fun e w' => e = .returned (.tuple #[.agg #[.int .i64 0, .int .i64 0, .int .i64 0, .int .i64 0, .int .i64 0], .bool false]) ∧ Below w.heap.size w w' := fun {g cap} {w} t => find_tab (cap := cap) (r := r) (d := d) hf (L2_len r) (by omega) t
  clear hf
  go_enter Try.func15, Try.ntmps15
  go_upto_region 1 with fail
  have M0 := Mem.two w 26 26 #[.int .i64 k, .int .i64 c, .int .u32 r, .string d] #[.int .i64 0, .int .i64 0, .int .u32 0, .string ⟨#[]⟩]
  refine wp_region_lit ?_
  refine lv (by kernel_rfl) (some 16) rfl (v := ?_) ?_ ?_
  rotate_left
  · go_simp; try with_reducible rfl
  try simp only [Act.put, List.setIfInBounds_toArray, List.set_cons_zero, List.set_cons_succ]
  refine lv (by kernel_rfl) (some 17) rfl (v := ?_) ?_ ?_
  rotate_left
  · go_simp; try with_reducible rfl
  try simp only [Act.put, List.setIfInBounds_toArray, List.set_cons_zero, List.set_cons_succ]
  refine l_same (by kernel_rfl) (some 18) rfl (c24 _) (by kernel_rfl) ?_
  try simp only [Act.put, List.setIfInBounds_toArray, List.set_cons_zero, List.set_cons_succ]
  refine lv (by kernel_rfl) (some 19) rfl (v := ?_) ?_ ?_
  rotate_left
  · go_simp; try with_reducible rfl
  try simp only [Act.put, List.setIfInBounds_toArray, List.set_cons_zero, List.set_cons_succ]
  refine wpList_nil ?_
  go_upto_region 3 with fail
  refine wp_region_lit ?_
  refine lv (by kernel_rfl) (some 21) rfl (v := ?_) ?_ ?_
  rotate_left
  · go_simp; try with_reducible rfl
  try simp only [Act.put, List.setIfInBounds_toArray, List.set_cons_zero, List.set_cons_succ]
  refine ly M0 (some 22) rfl (yi_cell 0 3 (.tmp 21) rfl (by kernel_rfl) rfl _ rfl (.int .i64 k) Try.underlying3 rfl rfl) ?_
  try simp only [Act.put, List.setIfInBounds_toArray, List.set_cons_zero, List.set_cons_succ]
  refine lv (by kernel_rfl) (some 23) rfl (v := ?_) ?_ ?_
  rotate_left
  · go_simp; try with_reducible rfl
  try simp only [Act.put, List.setIfInBounds_toArray, List.set_cons_zero, List.set_cons_succ]
  refine lv (by kernel_rfl) (some 24) rfl (v := ?_) ?_ ?_
  rotate_left
  · go_simp; try with_reducible rfl
  try simp only [Act.put, List.setIfInBounds_toArray, List.set_cons_zero, List.set_cons_succ]
  with_reducible refine lu (by kernel_rfl) (some 25) rfl ?_
  try simp only [Act.put, List.setIfInBounds_toArray, List.set_cons_zero, List.set_cons_succ]
  with_reducible refine lu (by kernel_rfl) (some 26) rfl ?_
  try simp only [Act.put, List.setIfInBounds_toArray, List.set_cons_zero, List.set_cons_succ]
  with_reducible refine lu (by kernel_rfl) (some 27) rfl ?_
  try simp only [Act.put, List.setIfInBounds_toArray, List.set_cons_zero, List.set_cons_succ]
  refine lv (by kernel_rfl) (some 28) rfl (v := ?_) ?_ ?_
  rotate_left
  · go_simp; try with_reducible rfl
  try simp only [Act.put, List.setIfInBounds_toArray, List.set_cons_zero, List.set_cons_succ]
  refine wpList_nil ?_
  go_upto_region 15 with fail
  refine wp_region_lit ?_
  refine lv (by kernel_rfl) (some 56) rfl (v := ?_) ?_ ?_
  rotate_left
  · go_simp; try with_reducible rfl
  try simp only [Act.put, List.setIfInBounds_toArray, List.set_cons_zero, List.set_cons_succ]
  refine ly M0 (some 57) rfl (yi_cell 0 3 (.tmp 56) rfl (by kernel_rfl) rfl _ rfl (.int .i64 k) Try.underlying3 rfl rfl) ?_
  try simp only [Act.put, List.setIfInBounds_toArray, List.set_cons_zero, List.set_cons_succ]
  refine lv (by kernel_rfl) (some 58) rfl (v := ?_) ?_ ?_
  rotate_left
  · go_simp; try with_reducible rfl
  try simp only [Act.put, List.setIfInBounds_toArray, List.set_cons_zero, List.set_cons_succ]
  refine lv (by kernel_rfl) (some 59) rfl (v := ?_) ?_ ?_
  rotate_left
  · go_simp; try with_reducible rfl
  try simp only [Act.put, List.setIfInBounds_toArray, List.set_cons_zero, List.set_cons_succ]
  refine lv (by kernel_rfl) (some 60) rfl (v := ?_) ?_ ?_
  rotate_left
  · go_simp; try with_reducible rfl
  try simp only [Act.put, List.setIfInBounds_toArray, List.set_cons_zero, List.set_cons_succ]
  refine ly M0 (some 61) rfl (yi_cell 0 3 (.tmp 60) rfl (by kernel_rfl) rfl _ rfl (.int .i64 c) Try.underlying3 rfl rfl) ?_
  try simp only [Act.put, List.setIfInBounds_toArray, List.set_cons_zero, List.set_cons_succ]
  refine lv (by kernel_rfl) (some 62) rfl (v := ?_) ?_ ?_
  rotate_left
  · go_simp; try with_reducible rfl
  try simp only [Act.put, List.setIfInBounds_toArray, List.set_cons_zero, List.set_cons_succ]
  refine lv (by kernel_rfl) (some 63) rfl (v := ?_) ?_ ?_
  rotate_left
  · go_simp; try with_reducible rfl
  try simp only [Act.put, List.setIfInBounds_toArray, List.set_cons_zero, List.set_cons_succ]
  refine lv (by kernel_rfl) (some 64) rfl (v := ?_) ?_ ?_
  rotate_left
  · go_simp; try with_reducible rfl
  try simp only [Act.put, List.setIfInBounds_toArray, List.set_cons_zero, List.set_cons_succ]
  refine ly M0 (some 65) rfl (yi_cell 0 3 (.tmp 64) rfl (by kernel_rfl) rfl _ rfl (.int .i64 c) Try.underlying3 rfl rfl) ?_
  try simp only [Act.put, List.setIfInBounds_toArray, List.set_cons_zero, List.set_cons_succ]
  refine lv (by kernel_rfl) (some 66) rfl (v := ?_) ?_ ?_
  rotate_left
  · go_simp; try with_reducible rfl
  try simp only [Act.put, List.setIfInBounds_toArray, List.set_cons_zero, List.set_cons_succ]
  refine lv (by kernel_rfl) (some 67) rfl (v := ?_) ?_ ?_
  rotate_left
  · go_simp; try with_reducible rfl
  try simp only [Act.put, List.setIfInBounds_toArray, List.set_cons_zero, List.set_cons_succ]
  refine lv (by kernel_rfl) (some 68) rfl (v := ?_) ?_ ?_
  rotate_left
  · go_simp; try with_reducible rfl
  try simp only [Act.put, List.setIfInBounds_toArray, List.set_cons_zero, List.set_cons_succ]
  refine wpList_nil ?_
  go_upto_region 21 with fail
  go_cut [14, 15] (fun s t wz => ∃ gz, s = .pointer (some ⟨gz, 0, none⟩) ∧ t = .bool false ∧ Mem w wz [(w.heap.size, 26, #[.int .i64 k, .int .i64 c, .int .u32 r, .string d]), (w.heap.size + 1, 26, #[.int .i64 0, .int .i64 0, .int .u32 0, .string ⟨#[]⟩]), (gz, 43, #[.int .i64 0, .int .i64 0, .int .i64 0, .int .i64 0, .int .i64 0])])
  case first =>
    refine wp_region_held_drew (S := fun w' => Mem w w' [(w.heap.size, 26, #[.int .i64 k, .int .i64 c, .int .u32 r, .string d]), (w.heap.size + 1, 26, #[.int .i64 0, .int .i64 0, .int .u32 0, .string ⟨#[]⟩])]) (by kernel_rfl) M0.drew (fun _ => ?_)
    have M1 := M0.drew
    refine tk (i := 0) (v := ?_) rfl (some 95) rfl (by kernel_rfl) (by kernel_rfl) (by kernel_rfl) (fun _ _ _ h => h) (Or.inl ⟨by kernel_rfl, ?_⟩) M1 ?_
    rotate_left
    · intro w hS; go_simp; try with_reducible rfl
    try simp only [Act.put, List.setIfInBounds_toArray, List.set_cons_zero, List.set_cons_succ]
    refine tk (i := 1) rfl (some 96) rfl (by kernel_rfl) (by kernel_rfl) (by kernel_rfl) (fun _ _ _ h => h) (yi_cell 0 24 (.tmp 95) rfl (by kernel_rfl) rfl _ rfl (.int .u32 r) Try.underlying24 rfl rfl) M1 ?_
    try simp only [Act.put, List.setIfInBounds_toArray, List.set_cons_zero, List.set_cons_succ]
    refine tk (i := 2) (v := ?_) rfl (some 97) rfl (by kernel_rfl) (by kernel_rfl) (by kernel_rfl) (fun _ _ _ h => h) (Or.inl ⟨by kernel_rfl, ?_⟩) M1 ?_
    rotate_left
    · intro w hS; go_simp; try with_reducible rfl
    try simp only [Act.put, List.setIfInBounds_toArray, List.set_cons_zero, List.set_cons_succ]
    refine tk (i := 4) rfl (some 99) rfl (by kernel_rfl) (by kernel_rfl) (by kernel_rfl) (fun _ _ _ h => h) (yi_row 0 26 (.tmp 4) rfl (by kernel_rfl) rfl rfl Try.underlying26 rfl (by kernel_rfl)) M1 ?_
    try simp only [Act.put, List.setIfInBounds_toArray, List.set_cons_zero, List.set_cons_succ]
    refine wpAnyH_ready (rs := [3, 9]) (by kernel_rfl) (by simp) ?_
    refine br_callR rfl (by kernel_rfl) (some 98) rfl (c26 _) (by kernel_rfl) ?_ ?_
    · rintro _ s2 ⟨g, cap, rfl, hg, hL, hb2⟩
      have M2 := M1.call hb2
      have tab_2 : Tab g (L2 r 4) s2 := ⟨hg, hL⟩
      refine ⟨_, rfl, M2, ?_⟩
      try simp only [Act.put, List.setIfInBounds_toArray, List.set_cons_zero, List.set_cons_succ]
      refine wpAnyH_ready (rs := [5, 9]) (by kernel_rfl) (by simp) ?_
      refine br_call rfl (by kernel_rfl) (some 100) rfl (c25 (cap := cap) tab_2) (by kernel_rfl) (fun w' hb => M2.call hb) (fun s3 hb3 => ?_) ?_
      · have M3 := M2.call hb3
        try simp only [Act.put, List.setIfInBounds_toArray, List.set_cons_zero, List.set_cons_succ]
        refine tk (i := 6) (v := ?_) rfl (some 94) rfl (by kernel_rfl) (by kernel_rfl) (by kernel_rfl) (fun _ _ _ h => h) (Or.inl ⟨by kernel_rfl, ?_⟩) M3 ?_
        rotate_left
        · intro w hS; go_simp; try with_reducible rfl
        try simp only [Act.put, List.setIfInBounds_toArray, List.set_cons_zero, List.set_cons_succ]
        refine tk (i := 7) (v := ?_) rfl (some 101) rfl (by kernel_rfl) (by kernel_rfl) (by kernel_rfl) (fun _ _ _ h => h) (Or.inl ⟨by kernel_rfl, ?_⟩) M3 ?_
        rotate_left
        · intro w hS; go_simp; try with_reducible rfl
        try simp only [Act.put, List.setIfInBounds_toArray, List.set_cons_zero, List.set_cons_succ]
        refine tk (i := 8) (v := ?_) rfl (some 102) rfl (by kernel_rfl) (by kernel_rfl) (by kernel_rfl) (fun _ _ _ h => h) (Or.inl ⟨by kernel_rfl, ?_⟩) M3 ?_
        rotate_left
        · intro w hS; go_simp; try with_reducible rfl
        try simp only [Act.put, List.setIfInBounds_toArray, List.set_cons_zero, List.set_cons_succ]
        refine wpAnyH_ready (rs := [9]) (by kernel_rfl) (by simp) ?_
        refine br_alloc rfl (by kernel_rfl) (some 14) rfl #[.int .i64 0, .int .i64 0, .int .i64 0, .int .i64 0, .int .i64 0] 43 (by kernel_rfl) (M3.alloc _) ?_ ?_
        · have M4 := M3.new rfl 43 #[.int .i64 0, .int .i64 0, .int .i64 0, .int .i64 0, .int .i64 0]
          try simp only [Act.put, List.setIfInBounds_toArray, List.set_cons_zero, List.set_cons_succ]
          refine wpAnyH_ready (rs := [10]) (by kernel_rfl) (by simp) ?_
          refine br_store M4 2 rfl (by kernel_rfl) 43 (.tmp 14) _ rfl rfl rfl rfl _ rfl (by kernel_rfl) (by rfl) (by kernel_rfl) _ rfl (fun w' M' => Mem.init (l := [(w.heap.size, 26, #[.int .i64 k, .int .i64 c, .int .u32 r, .string d]), (w.heap.size + 1, 26, #[.int .i64 0, .int .i64 0, .int .u32 0, .string ⟨#[]⟩])]) M') (fun s5 M5 => ?_) ?_
          · try simp only [List.cons_append, List.nil_append, List.set_cons_zero, List.set_cons_succ] at M5
            try simp only [Act.put, List.setIfInBounds_toArray, List.set_cons_zero, List.set_cons_succ]
            refine tk (i := 11) (v := ?_) rfl (some 15) rfl (by kernel_rfl) (by kernel_rfl) (by kernel_rfl) (fun _ _ _ h => h) (Or.inl ⟨by kernel_rfl, ?_⟩) (Mem.init (l := [(w.heap.size, 26, #[.int .i64 k, .int .i64 c, .int .u32 r, .string d]), (w.heap.size + 1, 26, #[.int .i64 0, .int .i64 0, .int .u32 0, .string ⟨#[]⟩])]) M5) ?_
            rotate_left
            · intro w hS; go_simp; try with_reducible rfl
            try simp only [Act.put, List.setIfInBounds_toArray, List.set_cons_zero, List.set_cons_succ]
            refine wpAnyH_done (by kernel_rfl) ?_ _
            go_wp2_with fail
            go_meet
            case rel => exact ⟨_, rfl, rfl, M5⟩
          exact AllReadyH.nil
        exact AllReadyH.nil
      refine br_alloc rfl (by kernel_rfl) (some 14) rfl #[.int .i64 0, .int .i64 0, .int .i64 0, .int .i64 0, .int .i64 0] 43 (by kernel_rfl) (M2.alloc _) ?_ ?_
      · have M6 := M2.new rfl 43 #[.int .i64 0, .int .i64 0, .int .i64 0, .int .i64 0, .int .i64 0]
        have tab_6 := tab_2.alloc (.cells #[.int .i64 0, .int .i64 0, .int .i64 0, .int .i64 0, .int .i64 0] 43)
        try simp only [Act.put, List.setIfInBounds_toArray, List.set_cons_zero, List.set_cons_succ]
        refine wpAnyH_ready (rs := [5]) (by kernel_rfl) (by simp) ?_
        refine br_call rfl (by kernel_rfl) (some 100) rfl (c25 (cap := cap) tab_6) (by kernel_rfl) (fun w' hb => Mem.init (l := [(w.heap.size, 26, #[.int .i64 k, .int .i64 c, .int .u32 r, .string d]), (w.heap.size + 1, 26, #[.int .i64 0, .int .i64 0, .int .u32 0, .string ⟨#[]⟩])]) (M6.call hb)) (fun s7 hb7 => ?_) ?_
        · have M7 := M6.call hb7
          try simp only [Act.put, List.setIfInBounds_toArray, List.set_cons_zero, List.set_cons_succ]
          refine tk (i := 6) (v := ?_) rfl (some 94) rfl (by kernel_rfl) (by kernel_rfl) (by kernel_rfl) (fun _ _ _ h => h) (Or.inl ⟨by kernel_rfl, ?_⟩) (Mem.init (l := [(w.heap.size, 26, #[.int .i64 k, .int .i64 c, .int .u32 r, .string d]), (w.heap.size + 1, 26, #[.int .i64 0, .int .i64 0, .int .u32 0, .string ⟨#[]⟩])]) M7) ?_
          rotate_left
          · intro w hS; go_simp; try with_reducible rfl
          try simp only [Act.put, List.setIfInBounds_toArray, List.set_cons_zero, List.set_cons_succ]
          refine tk (i := 7) (v := ?_) rfl (some 101) rfl (by kernel_rfl) (by kernel_rfl) (by kernel_rfl) (fun _ _ _ h => h) (Or.inl ⟨by kernel_rfl, ?_⟩) (Mem.init (l := [(w.heap.size, 26, #[.int .i64 k, .int .i64 c, .int .u32 r, .string d]), (w.heap.size + 1, 26, #[.int .i64 0, .int .i64 0, .int .u32 0, .string ⟨#[]⟩])]) M7) ?_
          rotate_left
          · intro w hS; go_simp; try with_reducible rfl
          try simp only [Act.put, List.setIfInBounds_toArray, List.set_cons_zero, List.set_cons_succ]
          refine tk (i := 8) (v := ?_) rfl (some 102) rfl (by kernel_rfl) (by kernel_rfl) (by kernel_rfl) (fun _ _ _ h => h) (Or.inl ⟨by kernel_rfl, ?_⟩) (Mem.init (l := [(w.heap.size, 26, #[.int .i64 k, .int .i64 c, .int .u32 r, .string d]), (w.heap.size + 1, 26, #[.int .i64 0, .int .i64 0, .int .u32 0, .string ⟨#[]⟩])]) M7) ?_
          rotate_left
          · intro w hS; go_simp; try with_reducible rfl
          try simp only [Act.put, List.setIfInBounds_toArray, List.set_cons_zero, List.set_cons_succ]
          refine wpAnyH_ready (rs := [10]) (by kernel_rfl) (by simp) ?_
          refine br_store M7 2 rfl (by kernel_rfl) 43 (.tmp 14) _ rfl rfl rfl rfl _ rfl (by kernel_rfl) (by rfl) (by kernel_rfl) _ rfl (fun w' M' => Mem.init (l := [(w.heap.size, 26, #[.int .i64 k, .int .i64 c, .int .u32 r, .string d]), (w.heap.size + 1, 26, #[.int .i64 0, .int .i64 0, .int .u32 0, .string ⟨#[]⟩])]) M') (fun s8 M8 => ?_) ?_
          · try simp only [List.cons_append, List.nil_append, List.set_cons_zero, List.set_cons_succ] at M8
            try simp only [Act.put, List.setIfInBounds_toArray, List.set_cons_zero, List.set_cons_succ]
            refine tk (i := 11) (v := ?_) rfl (some 15) rfl (by kernel_rfl) (by kernel_rfl) (by kernel_rfl) (fun _ _ _ h => h) (Or.inl ⟨by kernel_rfl, ?_⟩) (Mem.init (l := [(w.heap.size, 26, #[.int .i64 k, .int .i64 c, .int .u32 r, .string d]), (w.heap.size + 1, 26, #[.int .i64 0, .int .i64 0, .int .u32 0, .string ⟨#[]⟩])]) M8) ?_
            rotate_left
            · intro w hS; go_simp; try with_reducible rfl
            try simp only [Act.put, List.setIfInBounds_toArray, List.set_cons_zero, List.set_cons_succ]
            refine wpAnyH_done (by kernel_rfl) ?_ _
            go_wp2_with fail
            go_meet
            case rel => exact ⟨_, rfl, rfl, M8⟩
          exact AllReadyH.nil
        exact AllReadyH.nil
      exact AllReadyH.nil
    refine br_alloc rfl (by kernel_rfl) (some 14) rfl #[.int .i64 0, .int .i64 0, .int .i64 0, .int .i64 0, .int .i64 0] 43 (by kernel_rfl) (M1.alloc _) ?_ ?_
    · have M9 := M1.new rfl 43 #[.int .i64 0, .int .i64 0, .int .i64 0, .int .i64 0, .int .i64 0]
      try simp only [Act.put, List.setIfInBounds_toArray, List.set_cons_zero, List.set_cons_succ]
      refine wpAnyH_ready (rs := [3]) (by kernel_rfl) (by simp) ?_
      refine br_callR rfl (by kernel_rfl) (some 98) rfl (c26 _) (by kernel_rfl) ?_ ?_
      · rintro _ s10 ⟨g, cap, rfl, hg, hL, hb10⟩
        have M10 := M9.call hb10
        have tab_10 : Tab g (L2 r 4) s10 := ⟨hg, hL⟩
        refine ⟨_, rfl, Mem.init (l := [(w.heap.size, 26, #[.int .i64 k, .int .i64 c, .int .u32 r, .string d]), (w.heap.size + 1, 26, #[.int .i64 0, .int .i64 0, .int .u32 0, .string ⟨#[]⟩])]) (M10), ?_⟩
        try simp only [Act.put, List.setIfInBounds_toArray, List.set_cons_zero, List.set_cons_succ]
        refine wpAnyH_ready (rs := [5]) (by kernel_rfl) (by simp) ?_
        refine br_call rfl (by kernel_rfl) (some 100) rfl (c25 (cap := cap) tab_10) (by kernel_rfl) (fun w' hb => Mem.init (l := [(w.heap.size, 26, #[.int .i64 k, .int .i64 c, .int .u32 r, .string d]), (w.heap.size + 1, 26, #[.int .i64 0, .int .i64 0, .int .u32 0, .string ⟨#[]⟩])]) (M10.call hb)) (fun s11 hb11 => ?_) ?_
        · have M11 := M10.call hb11
          try simp only [Act.put, List.setIfInBounds_toArray, List.set_cons_zero, List.set_cons_succ]
          refine tk (i := 6) (v := ?_) rfl (some 94) rfl (by kernel_rfl) (by kernel_rfl) (by kernel_rfl) (fun _ _ _ h => h) (Or.inl ⟨by kernel_rfl, ?_⟩) (Mem.init (l := [(w.heap.size, 26, #[.int .i64 k, .int .i64 c, .int .u32 r, .string d]), (w.heap.size + 1, 26, #[.int .i64 0, .int .i64 0, .int .u32 0, .string ⟨#[]⟩])]) M11) ?_
          rotate_left
          · intro w hS; go_simp; try with_reducible rfl
          try simp only [Act.put, List.setIfInBounds_toArray, List.set_cons_zero, List.set_cons_succ]
          refine tk (i := 7) (v := ?_) rfl (some 101) rfl (by kernel_rfl) (by kernel_rfl) (by kernel_rfl) (fun _ _ _ h => h) (Or.inl ⟨by kernel_rfl, ?_⟩) (Mem.init (l := [(w.heap.size, 26, #[.int .i64 k, .int .i64 c, .int .u32 r, .string d]), (w.heap.size + 1, 26, #[.int .i64 0, .int .i64 0, .int .u32 0, .string ⟨#[]⟩])]) M11) ?_
          rotate_left
          · intro w hS; go_simp; try with_reducible rfl
          try simp only [Act.put, List.setIfInBounds_toArray, List.set_cons_zero, List.set_cons_succ]
          refine tk (i := 8) (v := ?_) rfl (some 102) rfl (by kernel_rfl) (by kernel_rfl) (by kernel_rfl) (fun _ _ _ h => h) (Or.inl ⟨by kernel_rfl, ?_⟩) (Mem.init (l := [(w.heap.size, 26, #[.int .i64 k, .int .i64 c, .int .u32 r, .string d]), (w.heap.size + 1, 26, #[.int .i64 0, .int .i64 0, .int .u32 0, .string ⟨#[]⟩])]) M11) ?_
          rotate_left
          · intro w hS; go_simp; try with_reducible rfl
          try simp only [Act.put, List.setIfInBounds_toArray, List.set_cons_zero, List.set_cons_succ]
          refine wpAnyH_ready (rs := [10]) (by kernel_rfl) (by simp) ?_
          refine br_store M11 2 rfl (by kernel_rfl) 43 (.tmp 14) _ rfl rfl rfl rfl _ rfl (by kernel_rfl) (by rfl) (by kernel_rfl) _ rfl (fun w' M' => Mem.init (l := [(w.heap.size, 26, #[.int .i64 k, .int .i64 c, .int .u32 r, .string d]), (w.heap.size + 1, 26, #[.int .i64 0, .int .i64 0, .int .u32 0, .string ⟨#[]⟩])]) M') (fun s12 M12 => ?_) ?_
          · try simp only [List.cons_append, List.nil_append, List.set_cons_zero, List.set_cons_succ] at M12
            try simp only [Act.put, List.setIfInBounds_toArray, List.set_cons_zero, List.set_cons_succ]
            refine tk (i := 11) (v := ?_) rfl (some 15) rfl (by kernel_rfl) (by kernel_rfl) (by kernel_rfl) (fun _ _ _ h => h) (Or.inl ⟨by kernel_rfl, ?_⟩) (Mem.init (l := [(w.heap.size, 26, #[.int .i64 k, .int .i64 c, .int .u32 r, .string d]), (w.heap.size + 1, 26, #[.int .i64 0, .int .i64 0, .int .u32 0, .string ⟨#[]⟩])]) M12) ?_
            rotate_left
            · intro w hS; go_simp; try with_reducible rfl
            try simp only [Act.put, List.setIfInBounds_toArray, List.set_cons_zero, List.set_cons_succ]
            refine wpAnyH_done (by kernel_rfl) ?_ _
            go_wp2_with fail
            go_meet
            case rel => exact ⟨_, rfl, rfl, M12⟩
          exact AllReadyH.nil
        exact AllReadyH.nil
      exact AllReadyH.nil
    exact AllReadyH.nil
  case rest =>
    obtain ⟨gz, rfl, rfl, MZ⟩ := hcut
    clear M0
    go_upto_region 22 with fail
    refine wp_region_lit ?_
    refine lv (by kernel_rfl) (some 103) rfl (v := ?_) ?_ ?_
    rotate_left
    · go_simp; try with_reducible rfl
    try simp only [Act.put, List.setIfInBounds_toArray, List.set_cons_zero, List.set_cons_succ]
    refine lv (by kernel_rfl) (some 104) rfl (v := ?_) ?_ ?_
    rotate_left
    · go_simp; try with_reducible rfl
    try simp only [Act.put, List.setIfInBounds_toArray, List.set_cons_zero, List.set_cons_succ]
    refine wpList_nil ?_
    go_upto_region 23 with fail
    refine wp_region_lit ?_
    refine lv (by kernel_rfl) (some 105) rfl (v := ?_) ?_ ?_
    rotate_left
    · go_simp; try with_reducible rfl
    try simp only [Act.put, List.setIfInBounds_toArray, List.set_cons_zero, List.set_cons_succ]
    refine l_store MZ 1 (by kernel_rfl) 26 (.tmp 8) _ rfl rfl rfl rfl _ rfl (by kernel_rfl) (by rfl) (by kernel_rfl) _ rfl (fun t13 M13 => ?_)
    clear MZ
    try simp only [List.cons_append, List.nil_append, List.set_cons_zero, List.set_cons_succ] at M13
    try simp only [Act.put, List.setIfInBounds_toArray, List.set_cons_zero, List.set_cons_succ]
    refine lv (by kernel_rfl) (some 9) rfl (v := ?_) ?_ ?_
    rotate_left
    · go_simp; try with_reducible rfl
    try simp only [Act.put, List.setIfInBounds_toArray, List.set_cons_zero, List.set_cons_succ]
    refine wpList_nil ?_
    go_wp2_with fail
    exact bodyPost_ret (v := retM (none) d) (results_cell_tmp rfl (M13.row (i := 1) rfl) _ rfl _ rfl Try.underlying26 rfl (by kernel_rfl)) rfl ⟨rfl, M13.below⟩
end Go.Proofs.Ytcppckpkiloilaa
