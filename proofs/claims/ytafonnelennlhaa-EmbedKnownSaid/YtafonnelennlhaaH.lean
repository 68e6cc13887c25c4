/-
  The law's awake answers true. No condition.
-/
import Derived.Test.YtafonnelennlhaaR
namespace Go.Proofs.Ytafonnelennlhaa
open Go.RowKit
set_option linter.unusedSimpArgs false
set_option linter.unusedVariables false

set_option maxRecDepth 100000 in
set_option maxHeartbeats 4000000 in
theorem awake_any (w : World) : Calls Try.prog 14 #[] w fun e w' => e = .returned (.bool true) ∧ Below w.heap.size w w' := by
  have he16 : ∀ w, (Op.equalIn 10000 23 (.agg (a16 (emb wA hA 96))) (.agg #[.int .u8 0, .int .u8 100, .int .u8 255, .int .u8 155, .int .u8 0, .int .u8 0, .int .u8 0, .int .u8 0, .int .u8 0, .int .u8 0, .int .u8 0, .int .u8 0, .int .u8 192, .int .u8 0, .int .u8 2, .int .u8 33])).run Try.prog w = .ok true w :=
    fun w => eq16 (X := xA) (r := true) (by simp [emb_well]) w
  have he4 : ∀ w, (Op.equalIn 10000 31 (.agg (a4 (ext (emb wA hA 96) 96))) (.agg (a4 hA))).run Try.prog w = .ok true w :=
    fun w => eq4 (r := true) (by simp only [true_iff]; exact fun k hk => ext_emb wA hA 96 k hk) w
  have c10 := fun w => embed_t right_well hA w
  have c12 := fun w => extract_t bytes_w (emb_bytes bytes_w bytes_h 96) (emb_inside right_well hA) (emb_8 right_well hA) w
  have c15 := fun w => right_t wA 96 w right_well
  have c19 := fun w => inside_t bytes_w (emb_bytes bytes_w bytes_h 96) (emb_inside right_well hA) w
  go_enter Try.func14, Try.ntmps14
  go_upto_region 2 with (first
    | (go_at_call 13; (with_reducible refine (well_any _).mono ?_); rintro e w1 ⟨rfl, hb1⟩; have M1 := (Mem.start w).call hb1; clear hb1)
    | (go_at_call 11; (with_reducible refine (host_any _).mono ?_); rintro e w2 ⟨rfl, hb2⟩; have M2 := M1.call hb2; clear hb2 M1)
    | (go_at_call 10; (with_reducible refine (c10 _).mono ?_); rintro e w3 ⟨rfl, hb3⟩; have M3 := M2.call hb3; clear hb3 M2)
    | (refine ms_new M3 23 (.tmp 1) _ rfl rfl 23 _ rfl (a16 (emb wA hA 96)) rfl (by kernel_rfl) rfl (by kernel_rfl) [(w3.heap.size, 23, (a16 (emb wA hA 96)))] rfl ?_; intro w4 M4; clear M3))
  go_cut [3, 4] (fun s t wz => ∃ g, s = .pointer (some ⟨g, 0, none⟩) ∧ t = .bool true ∧ Mem w wz [(w3.heap.size, 23, (a16 (emb wA hA 96))), (g, 31, a4 (ext (emb wA hA 96) 96))])
  case first =>
    refine wp_region_held_drew (S := fun w' => Mem w w' [(w3.heap.size, 23, (a16 (emb wA hA 96)))]) (by kernel_rfl) M4.drew (fun M5 => ?_)
    refine tk (i := 1) rfl (some 13) rfl (by kernel_rfl) (by kernel_rfl) (by kernel_rfl) (fun _ _ _ h => h) (yi_row 0 23 (.tmp 1) rfl rfl rfl rfl Try.underlying23 rfl (by kernel_rfl)) M5 ?_
    try simp only [Act.put, List.setIfInBounds_toArray, List.set_cons_zero, List.set_cons_succ]
    refine wpAnyH_ready (rs := [0, 6]) (by kernel_rfl) (by simp) ?_
    refine br_call rfl rfl (some 12) rfl (well_any _) (by kernel_rfl) (fun w' hb => M5.call hb) (fun y1 hb1 => ?_) ?_
    · have yn1 := M5.call hb1
      clear hb1
      try simp only [Act.put, List.setIfInBounds_toArray, List.set_cons_zero, List.set_cons_succ]
      refine wpAnyH_ready (rs := [2, 6]) (by kernel_rfl) (by simp) ?_
      refine br_call rfl rfl (some 14) rfl (c12 _) (by kernel_rfl) (fun w' hb => yn1.call hb) (fun y2 hb2 => ?_) ?_
      · have yn2 := yn1.call hb2
        clear hb2
        try simp only [Act.put, List.setIfInBounds_toArray, List.set_cons_zero, List.set_cons_succ]
        refine tk (i := 3) (v := ?_) rfl (some 11) rfl (by kernel_rfl) (by kernel_rfl) (by kernel_rfl) (fun _ _ _ h => h) (Or.inl ⟨by rfl, ?_⟩) yn2 ?_
        rotate_left
        · intro w hS; go_simp; try with_reducible rfl
        try simp only [Act.put, List.setIfInBounds_toArray, List.set_cons_zero, List.set_cons_succ]
        refine tk (i := 4) (v := ?_) rfl (some 15) rfl (by kernel_rfl) (by kernel_rfl) (by kernel_rfl) (fun _ _ _ h => h) (Or.inl ⟨by rfl, ?_⟩) yn2 ?_
        rotate_left
        · intro w hS; go_simp; try with_reducible rfl
        try simp only [Act.put, List.setIfInBounds_toArray, List.set_cons_zero, List.set_cons_succ]
        refine tk (i := 5) (v := ?_) rfl (some 16) rfl (by kernel_rfl) (by kernel_rfl) (by kernel_rfl) (fun _ _ _ h => h) (Or.inl ⟨by rfl, ?_⟩) yn2 ?_
        rotate_left
        · intro w hS; go_simp; try with_reducible rfl
        try simp only [Act.put, List.setIfInBounds_toArray, List.set_cons_zero, List.set_cons_succ]
        refine wpAnyH_ready (rs := [6]) (by kernel_rfl) (by simp) ?_
        refine br_alloc rfl rfl (some 3) rfl #[.int .u8 0, .int .u8 0, .int .u8 0, .int .u8 0] 31 (by kernel_rfl) (yn2.alloc _) ?_ ?_
        · have yn3 := yn2.new rfl 31 #[.int .u8 0, .int .u8 0, .int .u8 0, .int .u8 0]
          try simp only [Act.put, List.setIfInBounds_toArray, List.set_cons_zero, List.set_cons_succ]
          refine wpAnyH_ready (rs := [7]) (by kernel_rfl) (by simp) ?_
          refine br_store yn3 1 rfl rfl 31 (.tmp 3) _ rfl rfl rfl rfl (a4 (ext (emb wA hA 96) 96)) rfl (by kernel_rfl) rfl (by kernel_rfl) _ rfl (fun w' M' => Mem.init (l := [(w3.heap.size, 23, (a16 (emb wA hA 96)))]) M') (fun y4 yn4 => ?_) ?_
          · try simp only [Act.put, List.setIfInBounds_toArray, List.set_cons_zero, List.set_cons_succ]
            refine tk (i := 8) (v := ?_) rfl (some 4) rfl (by kernel_rfl) (by kernel_rfl) (by kernel_rfl) (fun _ _ _ h => h) (Or.inl ⟨by rfl, ?_⟩) (Mem.init (l := [(w3.heap.size, 23, (a16 (emb wA hA 96)))]) yn4) ?_
            rotate_left
            · intro w hS; go_simp; try with_reducible rfl
            try simp only [Act.put, List.setIfInBounds_toArray, List.set_cons_zero, List.set_cons_succ]
            refine wpAnyH_done (by kernel_rfl) ?_ _
            go_wp2_with fail
            go_meet
            case rel => exact ⟨_, rfl, rfl, yn4⟩
          exact AllReadyH.nil
        exact AllReadyH.nil
      refine br_alloc rfl rfl (some 3) rfl #[.int .u8 0, .int .u8 0, .int .u8 0, .int .u8 0] 31 (by kernel_rfl) (yn1.alloc _) ?_ ?_
      · have yn5 := yn1.new rfl 31 #[.int .u8 0, .int .u8 0, .int .u8 0, .int .u8 0]
        try simp only [Act.put, List.setIfInBounds_toArray, List.set_cons_zero, List.set_cons_succ]
        refine wpAnyH_ready (rs := [2]) (by kernel_rfl) (by simp) ?_
        refine br_call rfl rfl (some 14) rfl (c12 _) (by kernel_rfl) (fun w' hb => Mem.init (l := [(w3.heap.size, 23, (a16 (emb wA hA 96)))]) (yn5.call hb)) (fun y6 hb6 => ?_) ?_
        · have yn6 := yn5.call hb6
          clear hb6
          try simp only [Act.put, List.setIfInBounds_toArray, List.set_cons_zero, List.set_cons_succ]
          refine tk (i := 3) (v := ?_) rfl (some 11) rfl (by kernel_rfl) (by kernel_rfl) (by kernel_rfl) (fun _ _ _ h => h) (Or.inl ⟨by rfl, ?_⟩) (Mem.init (l := [(w3.heap.size, 23, (a16 (emb wA hA 96)))]) yn6) ?_
          rotate_left
          · intro w hS; go_simp; try with_reducible rfl
          try simp only [Act.put, List.setIfInBounds_toArray, List.set_cons_zero, List.set_cons_succ]
          refine tk (i := 4) (v := ?_) rfl (some 15) rfl (by kernel_rfl) (by kernel_rfl) (by kernel_rfl) (fun _ _ _ h => h) (Or.inl ⟨by rfl, ?_⟩) (Mem.init (l := [(w3.heap.size, 23, (a16 (emb wA hA 96)))]) yn6) ?_
          rotate_left
          · intro w hS; go_simp; try with_reducible rfl
          try simp only [Act.put, List.setIfInBounds_toArray, List.set_cons_zero, List.set_cons_succ]
          refine tk (i := 5) (v := ?_) rfl (some 16) rfl (by kernel_rfl) (by kernel_rfl) (by kernel_rfl) (fun _ _ _ h => h) (Or.inl ⟨by rfl, ?_⟩) (Mem.init (l := [(w3.heap.size, 23, (a16 (emb wA hA 96)))]) yn6) ?_
          rotate_left
          · intro w hS; go_simp; try with_reducible rfl
          try simp only [Act.put, List.setIfInBounds_toArray, List.set_cons_zero, List.set_cons_succ]
          refine wpAnyH_ready (rs := [7]) (by kernel_rfl) (by simp) ?_
          refine br_store yn6 1 rfl rfl 31 (.tmp 3) _ rfl rfl rfl rfl (a4 (ext (emb wA hA 96) 96)) rfl (by kernel_rfl) rfl (by kernel_rfl) _ rfl (fun w' M' => Mem.init (l := [(w3.heap.size, 23, (a16 (emb wA hA 96)))]) M') (fun y7 yn7 => ?_) ?_
          · try simp only [Act.put, List.setIfInBounds_toArray, List.set_cons_zero, List.set_cons_succ]
            refine tk (i := 8) (v := ?_) rfl (some 4) rfl (by kernel_rfl) (by kernel_rfl) (by kernel_rfl) (fun _ _ _ h => h) (Or.inl ⟨by rfl, ?_⟩) (Mem.init (l := [(w3.heap.size, 23, (a16 (emb wA hA 96)))]) yn7) ?_
            rotate_left
            · intro w hS; go_simp; try with_reducible rfl
            try simp only [Act.put, List.setIfInBounds_toArray, List.set_cons_zero, List.set_cons_succ]
            refine wpAnyH_done (by kernel_rfl) ?_ _
            go_wp2_with fail
            go_meet
            case rel => exact ⟨_, rfl, rfl, yn7⟩
          exact AllReadyH.nil
        exact AllReadyH.nil
      exact AllReadyH.nil
    refine br_alloc rfl rfl (some 3) rfl #[.int .u8 0, .int .u8 0, .int .u8 0, .int .u8 0] 31 (by kernel_rfl) (M5.alloc _) ?_ ?_
    · have yn8 := M5.new rfl 31 #[.int .u8 0, .int .u8 0, .int .u8 0, .int .u8 0]
      try simp only [Act.put, List.setIfInBounds_toArray, List.set_cons_zero, List.set_cons_succ]
      refine wpAnyH_ready (rs := [0]) (by kernel_rfl) (by simp) ?_
      refine br_call rfl rfl (some 12) rfl (well_any _) (by kernel_rfl) (fun w' hb => Mem.init (l := [(w3.heap.size, 23, (a16 (emb wA hA 96)))]) (yn8.call hb)) (fun y9 hb9 => ?_) ?_
      · have yn9 := yn8.call hb9
        clear hb9
        try simp only [Act.put, List.setIfInBounds_toArray, List.set_cons_zero, List.set_cons_succ]
        refine wpAnyH_ready (rs := [2]) (by kernel_rfl) (by simp) ?_
        refine br_call rfl rfl (some 14) rfl (c12 _) (by kernel_rfl) (fun w' hb => Mem.init (l := [(w3.heap.size, 23, (a16 (emb wA hA 96)))]) (yn9.call hb)) (fun y10 hb10 => ?_) ?_
        · have yn10 := yn9.call hb10
          clear hb10
          try simp only [Act.put, List.setIfInBounds_toArray, List.set_cons_zero, List.set_cons_succ]
          refine tk (i := 3) (v := ?_) rfl (some 11) rfl (by kernel_rfl) (by kernel_rfl) (by kernel_rfl) (fun _ _ _ h => h) (Or.inl ⟨by rfl, ?_⟩) (Mem.init (l := [(w3.heap.size, 23, (a16 (emb wA hA 96)))]) yn10) ?_
          rotate_left
          · intro w hS; go_simp; try with_reducible rfl
          try simp only [Act.put, List.setIfInBounds_toArray, List.set_cons_zero, List.set_cons_succ]
          refine tk (i := 4) (v := ?_) rfl (some 15) rfl (by kernel_rfl) (by kernel_rfl) (by kernel_rfl) (fun _ _ _ h => h) (Or.inl ⟨by rfl, ?_⟩) (Mem.init (l := [(w3.heap.size, 23, (a16 (emb wA hA 96)))]) yn10) ?_
          rotate_left
          · intro w hS; go_simp; try with_reducible rfl
          try simp only [Act.put, List.setIfInBounds_toArray, List.set_cons_zero, List.set_cons_succ]
          refine tk (i := 5) (v := ?_) rfl (some 16) rfl (by kernel_rfl) (by kernel_rfl) (by kernel_rfl) (fun _ _ _ h => h) (Or.inl ⟨by rfl, ?_⟩) (Mem.init (l := [(w3.heap.size, 23, (a16 (emb wA hA 96)))]) yn10) ?_
          rotate_left
          · intro w hS; go_simp; try with_reducible rfl
          try simp only [Act.put, List.setIfInBounds_toArray, List.set_cons_zero, List.set_cons_succ]
          refine wpAnyH_ready (rs := [7]) (by kernel_rfl) (by simp) ?_
          refine br_store yn10 1 rfl rfl 31 (.tmp 3) _ rfl rfl rfl rfl (a4 (ext (emb wA hA 96) 96)) rfl (by kernel_rfl) rfl (by kernel_rfl) _ rfl (fun w' M' => Mem.init (l := [(w3.heap.size, 23, (a16 (emb wA hA 96)))]) M') (fun y11 yn11 => ?_) ?_
          · try simp only [Act.put, List.setIfInBounds_toArray, List.set_cons_zero, List.set_cons_succ]
            refine tk (i := 8) (v := ?_) rfl (some 4) rfl (by kernel_rfl) (by kernel_rfl) (by kernel_rfl) (fun _ _ _ h => h) (Or.inl ⟨by rfl, ?_⟩) (Mem.init (l := [(w3.heap.size, 23, (a16 (emb wA hA 96)))]) yn11) ?_
            rotate_left
            · intro w hS; go_simp; try with_reducible rfl
            try simp only [Act.put, List.setIfInBounds_toArray, List.set_cons_zero, List.set_cons_succ]
            refine wpAnyH_done (by kernel_rfl) ?_ _
            go_wp2_with fail
            go_meet
            case rel => exact ⟨_, rfl, rfl, yn11⟩
          exact AllReadyH.nil
        exact AllReadyH.nil
      exact AllReadyH.nil
    exact AllReadyH.nil
  case rest =>
    obtain ⟨g, rfl, rfl, M6⟩ := hcut
    clear M4 c10 c12
    go_upto_region 3 with fail
    refine wp_region_held_drew (S := fun w' => Mem w w' [(w3.heap.size, 23, (a16 (emb wA hA 96))), (g, 31, a4 (ext (emb wA hA 96) 96))]) (by kernel_rfl) M6.drew (fun M7 => ?_)
    refine tk (i := 0) (v := ?_) rfl (some 17) rfl (by kernel_rfl) (by kernel_rfl) (by kernel_rfl) (fun _ _ _ h => h) (Or.inl ⟨by rfl, ?_⟩) M7 ?_
    rotate_left
    · intro w hS; go_simp; try with_reducible rfl
    try simp only [Act.put, List.setIfInBounds_toArray, List.set_cons_zero, List.set_cons_succ]
    refine tk (i := 1) (v := ?_) rfl (some 18) rfl (by kernel_rfl) (by kernel_rfl) (by kernel_rfl) (fun _ _ _ h => h) (Or.inl ⟨by rfl, ?_⟩) M7 ?_
    rotate_left
    · intro w hS; go_simp; try with_reducible rfl
    try simp only [Act.put, List.setIfInBounds_toArray, List.set_cons_zero, List.set_cons_succ]
    refine tk (i := 2) (v := ?_) rfl (some 19) rfl (by kernel_rfl) (by kernel_rfl) (by kernel_rfl) (fun _ _ _ h => h) (Or.inl ⟨by rfl, ?_⟩) M7 ?_
    rotate_left
    · intro w hS; go_simp; try with_reducible rfl
    try simp only [Act.put, List.setIfInBounds_toArray, List.set_cons_zero, List.set_cons_succ]
    refine tk (i := 3) (v := ?_) rfl (some 20) rfl (by kernel_rfl) (by kernel_rfl) (by kernel_rfl) (fun _ _ _ h => h) (Or.inl ⟨by rfl, ?_⟩) M7 ?_
    rotate_left
    · intro w hS; go_simp; try with_reducible rfl
    try simp only [Act.put, List.setIfInBounds_toArray, List.set_cons_zero, List.set_cons_succ]
    refine tk (i := 4) (v := ?_) rfl (some 21) rfl (by kernel_rfl) (by kernel_rfl) (by kernel_rfl) (fun _ _ _ h => h) (Or.inl ⟨by rfl, ?_⟩) M7 ?_
    rotate_left
    · intro w hS; go_simp; try with_reducible rfl
    try simp only [Act.put, List.setIfInBounds_toArray, List.set_cons_zero, List.set_cons_succ]
    refine tk (i := 5) rfl (some 22) rfl (by kernel_rfl) (by kernel_rfl) (by kernel_rfl) (fun _ _ _ h => h) (yi_row 0 23 (.tmp 1) rfl rfl rfl rfl Try.underlying23 rfl (by kernel_rfl)) M7 ?_
    try simp only [Act.put, List.setIfInBounds_toArray, List.set_cons_zero, List.set_cons_succ]
    refine tk (i := 6) (v := ?_) rfl (some 23) rfl (by kernel_rfl) (by kernel_rfl) (by kernel_rfl) (fun _ _ _ h => h) (Or.inl ⟨by rfl, ?_⟩) M7 ?_
    rotate_left
    · intro w hS; go_simp; try with_reducible rfl
    try simp only [Act.put, List.setIfInBounds_toArray, List.set_cons_zero, List.set_cons_succ]
    refine tk (i := 7) (v := ?_) rfl (some 24) rfl (by kernel_rfl) (by kernel_rfl) (by kernel_rfl) (fun _ _ _ h => h) (Or.inl ⟨by rfl, ?_⟩) M7 ?_
    rotate_left
    · intro w hS; go_simp; try with_reducible rfl
    try simp only [Act.put, List.setIfInBounds_toArray, List.set_cons_zero, List.set_cons_succ]
    refine tk (i := 8) (v := ?_) rfl (some 25) rfl (by kernel_rfl) (by kernel_rfl) (by kernel_rfl) (fun _ _ _ h => h) (Or.inl ⟨by rfl, ?_⟩) M7 ?_
    rotate_left
    · intro w hS; go_simp; try with_reducible rfl
    try simp only [Act.put, List.setIfInBounds_toArray, List.set_cons_zero, List.set_cons_succ]
    refine tk (i := 9) (v := ?_) rfl (some 26) rfl (by kernel_rfl) (by kernel_rfl) (by kernel_rfl) (fun _ _ _ h => h) (Or.inl ⟨by rfl, ?_⟩) M7 ?_
    rotate_left
    · intro w hS; go_simp; try with_reducible rfl
    try simp only [Act.put, List.setIfInBounds_toArray, List.set_cons_zero, List.set_cons_succ]
    refine tk (i := 10) rfl (some 27) rfl (by kernel_rfl) (by kernel_rfl) (by kernel_rfl) (fun _ _ _ h => h) (yi_row 1 31 (.tmp 3) rfl rfl rfl rfl Try.underlying31 rfl (by kernel_rfl)) M7 ?_
    try simp only [Act.put, List.setIfInBounds_toArray, List.set_cons_zero, List.set_cons_succ]
    refine wpAnyH_ready (rs := [11]) (by kernel_rfl) (by simp) ?_
    refine br_call rfl rfl (some 28) rfl (host_any _) (by kernel_rfl) (fun w' hb => M7.call hb) (fun z1 hb1 => ?_) ?_
    · have zn1 := M7.call hb1
      clear hb1
      try simp only [Act.put, List.setIfInBounds_toArray, List.set_cons_zero, List.set_cons_succ]
      refine tk (i := 12) (v := ?_) rfl (some 29) rfl (by kernel_rfl) (by kernel_rfl) (by kernel_rfl) (fun _ _ _ h => h) (Or.inl ⟨by rfl, ?_⟩) zn1 ?_
      rotate_left
      · intro w hS; go_simp; try with_reducible rfl
      try simp only [Act.put, List.setIfInBounds_toArray, List.set_cons_zero, List.set_cons_succ]
      refine tk (i := 13) (v := ?_) rfl (some 30) rfl (by kernel_rfl) (by kernel_rfl) (by kernel_rfl) (fun _ _ _ h => h) (Or.inl ⟨by rfl, ?_⟩) zn1 ?_
      rotate_left
      · intro w hS; go_simp; try with_reducible rfl
      try simp only [Act.put, List.setIfInBounds_toArray, List.set_cons_zero, List.set_cons_succ]
      refine tk (i := 14) (v := ?_) rfl (some 31) rfl (by kernel_rfl) (by kernel_rfl) (by kernel_rfl) (fun _ _ _ h => h) (Or.inl ⟨by rfl, ?_⟩) zn1 ?_
      rotate_left
      · intro w hS; go_simp; try with_reducible rfl
      try simp only [Act.put, List.setIfInBounds_toArray, List.set_cons_zero, List.set_cons_succ]
      refine wpAnyH_ready (rs := [15]) (by kernel_rfl) (by simp) ?_
      refine br_call rfl rfl (some 32) rfl (well_any _) (by kernel_rfl) (fun w' hb => zn1.call hb) (fun z2 hb2 => ?_) ?_
      · have zn2 := zn1.call hb2
        clear hb2
        try simp only [Act.put, List.setIfInBounds_toArray, List.set_cons_zero, List.set_cons_succ]
        refine wpAnyH_ready (rs := [16]) (by kernel_rfl) (by simp) ?_
        refine br_call rfl rfl (some 33) rfl (c15 _) (by kernel_rfl) (fun w' hb => zn2.call hb) (fun z3 hb3 => ?_) ?_
        · have zn3 := zn2.call hb3
          clear hb3
          try simp only [Act.put, List.setIfInBounds_toArray, List.set_cons_zero, List.set_cons_succ]
          refine tk (i := 17) (v := ?_) rfl (some 34) rfl (by kernel_rfl) (by kernel_rfl) (by kernel_rfl) (fun _ _ _ h => h) (Or.inl ⟨by rfl, ?_⟩) zn3 ?_
          rotate_left
          · intro w hS; go_simp; try with_reducible rfl
          try simp only [Act.put, List.setIfInBounds_toArray, List.set_cons_zero, List.set_cons_succ]
          refine tk (i := 18) (v := ?_) rfl (some 35) rfl (by kernel_rfl) (by kernel_rfl) (by kernel_rfl) (fun _ _ _ h => h) (Or.inl ⟨by rfl, ?_⟩) zn3 ?_
          rotate_left
          · intro w hS; go_simp; try with_reducible rfl
          try simp only [Act.put, List.setIfInBounds_toArray, List.set_cons_zero, List.set_cons_succ]
          refine tk (i := 20) rfl (some 37) rfl (by kernel_rfl) (by kernel_rfl) (by kernel_rfl) (fun _ _ _ h => h) (yi_row 0 23 (.tmp 1) rfl rfl rfl rfl Try.underlying23 rfl (by kernel_rfl)) zn3 ?_
          try simp only [Act.put, List.setIfInBounds_toArray, List.set_cons_zero, List.set_cons_succ]
          refine wpAnyH_ready (rs := [19]) (by kernel_rfl) (by simp) ?_
          refine br_call rfl rfl (some 36) rfl (well_any _) (by kernel_rfl) (fun w' hb => zn3.call hb) (fun z4 hb4 => ?_) ?_
          · have zn4 := zn3.call hb4
            clear hb4
            try simp only [Act.put, List.setIfInBounds_toArray, List.set_cons_zero, List.set_cons_succ]
            refine wpAnyH_ready (rs := [21]) (by kernel_rfl) (by simp) ?_
            refine br_call rfl rfl (some 38) rfl (c19 _) (by kernel_rfl) (fun w' hb => zn4.call hb) (fun z5 hb5 => ?_) ?_
            · have zn5 := zn4.call hb5
              clear hb5
              try simp only [Act.put, List.setIfInBounds_toArray, List.set_cons_zero, List.set_cons_succ]
              refine tk (i := 22) (v := ?_) rfl (some 39) rfl (by kernel_rfl) (by kernel_rfl) (by kernel_rfl) (fun _ _ _ h => h) (Or.inl ⟨by rfl, ?_⟩) zn5 ?_
              rotate_left
              · intro w hS; go_simp; try with_reducible rfl
              try simp only [Act.put, List.setIfInBounds_toArray, List.set_cons_zero, List.set_cons_succ]
              refine tk (i := 23) (v := ?_) rfl (some 0) rfl (by kernel_rfl) (by kernel_rfl) (by kernel_rfl) (fun _ _ _ h => h) (Or.inl ⟨by rfl, ?_⟩) zn5 ?_
              rotate_left
              · intro w hS; go_simp; try with_reducible rfl
              try simp only [Act.put, List.setIfInBounds_toArray, List.set_cons_zero, List.set_cons_succ]
              refine wpAnyH_done (by kernel_rfl) ?_ _
              go_wp2
              go_ret
              exact ⟨rfl, zn5.below⟩
            exact AllReadyH.nil
          exact AllReadyH.nil
        exact AllReadyH.nil
      exact AllReadyH.nil
    exact AllReadyH.nil
end Go.Proofs.Ytafonnelennlhaa
