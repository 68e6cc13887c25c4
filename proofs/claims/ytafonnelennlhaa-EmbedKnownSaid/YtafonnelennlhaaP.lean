/-
  Embed and Extract at any length: what they answer, as functions of the bytes. Conditions stand in each statement.
-/
import Derived.Test.YtafonnelennlhaaD
import Derived.Test.YtafonnelennlhaaE
import Derived.Test.YtafonnelennlhaaM
namespace Go.Proofs.Ytafonnelennlhaa
open Go.RowKit

/-- Where byte k of an IPv4 address stands. -/
def at_ (n : Int) (k : Nat) : Nat := if n = 32 then 4 + k else if n = 40 then (if k < 3 then 5 + k else 6 + k) else if n = 48 then (if k < 2 then 6 + k else 7 + k) else if n = 56 then (if k < 1 then 7 + k else 8 + k) else if n = 64 then 9 + k else 12 + k
def emb (P A : Nat → Int) (n : Int) (j : Nat) : Int := if j = at_ n 0 then A 0 else if j = at_ n 1 then A 1 else if j = at_ n 2 then A 2 else if j = at_ n 3 then A 3 else P j
def ext (X : Nat → Int) (n : Int) (k : Nat) : Int := X (at_ n k)
def zero : Nat → Int := fun _ => 0
theorem embed_t {P : Nat → Int} {n : Int} (h : RightP P n) (A : Nat → Int) (w : World) : Calls Try.prog 10 #[net P n, .agg (a4 A)] w fun e w' => e = .returned (.tuple #[.agg (a16 (emb P A n)), .bool true]) ∧ Below w.heap.size w w' := by
  have hl := h.1
  unfold LenOk at hl
  rcases hl with rfl | rfl | rfl | rfl | rfl | rfl
  · exact embed_32 P A w h
  · exact embed_40 P A w h
  · exact embed_48 P A w h
  · exact embed_56 P A w h
  · exact embed_64 P A w h
  · exact embed_96 P A w h
theorem embed_n {P : Nat → Int} {n : Int} (h : ¬ RightP P n) (A : Nat → Int) (w : World) : Calls Try.prog 10 #[net P n, .agg (a4 A)] w fun e w' => e = .returned (.tuple #[.agg (a16 zero), .bool false]) ∧ Below w.heap.size w w' := embed_f P A n w h
theorem extract_t {P X : Nat → Int} {n : Int} (bp : Bytes 16 P) (bx : Bytes 16 X) (h : InsideP P X n) (h8 : X 8 = 0) (w : World) : Calls Try.prog 12 #[net P n, .agg (a16 X)] w fun e w' => e = .returned (.tuple #[.agg (a4 (ext X n)), .bool true]) ∧ Below w.heap.size w w' := by
  have hl := h.1.1
  unfold LenOk at hl
  rcases hl with rfl | rfl | rfl | rfl | rfl | rfl
  · exact extract_32 P X w bp bx h h8
  · exact extract_40 P X w bp bx h h8
  · exact extract_48 P X w bp bx h h8
  · exact extract_56 P X w bp bx h h8
  · exact extract_64 P X w bp bx h h8
  · exact extract_96 P X w bp bx h h8
theorem extract_n {P X : Nat → Int} {n : Int} (bp : Bytes 16 P) (bx : Bytes 16 X) (h : ¬ (InsideP P X n ∧ X 8 = 0)) (w : World) : Calls Try.prog 12 #[net P n, .agg (a16 X)] w fun e w' => e = .returned (.tuple #[.agg (a4 zero), .bool false]) ∧ Below w.heap.size w w' := by
  by_cases hi : InsideP P X n
  · exact extract_8 P X n w bp bx hi (fun h8 => h ⟨hi, h8⟩)
  · exact extract_f P X n w bp bx hi
theorem inside_t {P X : Nat → Int} {n : Int} (bp : Bytes 16 P) (bx : Bytes 16 X) (h : InsideP P X n) (w : World) : Calls Try.prog 19 #[net P n, .agg (a16 X)] w fun e w' => e = .returned (.bool true) ∧ Below w.heap.size w w' := inside_any P X n w bp bx true (by simp [h])
theorem inside_n {P X : Nat → Int} {n : Int} (bp : Bytes 16 P) (bx : Bytes 16 X) (h : ¬ InsideP P X n) (w : World) : Calls Try.prog 19 #[net P n, .agg (a16 X)] w fun e w' => e = .returned (.bool false) ∧ Below w.heap.size w w' := inside_any P X n w bp bx false (by simp [h])

theorem at_lt (n : Int) (k : Nat) (hk : k < 4) : at_ n k < 16 := by unfold at_; (repeat' split) <;> omega
theorem at_inj (n : Int) (j k : Nat) (hj : j < 4) (hk : k < 4) (h : at_ n j = at_ n k) : j = k := by
  unfold at_ at h
  split at h
  · omega
  · split at h
    · split at h <;> split at h <;> omega
    · split at h
      · split at h <;> split at h <;> omega
      · split at h
        · split at h <;> split at h <;> omega
        · split at h <;> omega
theorem at_8 {n : Int} (h : LenOk n) (k : Nat) (hk : k < 4) : at_ n k ≠ 8 := by
  unfold LenOk at h
  rcases h with rfl | rfl | rfl | rfl | rfl | rfl <;> (unfold at_; simp only [reduceIte, Int.reduceEq]; (repeat' split) <;> omega)
theorem at_ge {n : Int} (h : LenOk n) (k : Nat) (_hk : k < 4) : (n / 8).toNat ≤ at_ n k := by
  unfold LenOk at h
  rcases h with rfl | rfl | rfl | rfl | rfl | rfl <;> (unfold at_; simp only [reduceIte, Int.reduceEq]; (repeat' split) <;> omega)
theorem ext_emb (P A : Nat → Int) (n : Int) (k : Nat) (hk : k < 4) : ext (emb P A n) n k = A k := by
  have inj := at_inj n
  unfold ext emb
  match k, hk with
  | 0, _ => simp
  | 1, _ =>
    rw [if_neg (fun h => by have := inj 1 0 (by omega) (by omega) h; omega), if_pos rfl]
  | 2, _ =>
    rw [if_neg (fun h => by have := inj 2 0 (by omega) (by omega) h; omega), if_neg (fun h => by have := inj 2 1 (by omega) (by omega) h; omega), if_pos rfl]
  | 3, _ =>
    rw [if_neg (fun h => by have := inj 3 0 (by omega) (by omega) h; omega), if_neg (fun h => by have := inj 3 1 (by omega) (by omega) h; omega), if_neg (fun h => by have := inj 3 2 (by omega) (by omega) h; omega), if_pos rfl]
  | k + 4, h => exact absurd h (by omega)
theorem emb_other (P A : Nat → Int) (n : Int) (j : Nat) (h : ∀ k, k < 4 → j ≠ at_ n k) : emb P A n j = P j := by
  unfold emb
  rw [if_neg (h 0 (by omega)), if_neg (h 1 (by omega)), if_neg (h 2 (by omega)), if_neg (h 3 (by omega))]
theorem emb_inside {P : Nat → Int} {n : Int} (h : RightP P n) (A : Nat → Int) : InsideP P (emb P A n) n := by
  refine ⟨h, fun j hj => (emb_other P A n j fun k hk e => ?_).symm⟩
  have := at_ge h.1 k hk
  omega
theorem emb_8 {P : Nat → Int} {n : Int} (h : RightP P n) (A : Nat → Int) : emb P A n 8 = 0 := by
  rw [emb_other P A n 8 fun k hk e => at_8 h.1 k hk e.symm]
  exact h.2 8 (by omega) (.inr rfl)
theorem emb_bytes {P A : Nat → Int} (bp : Bytes 16 P) (ba : Bytes 4 A) (n : Int) : Bytes 16 (emb P A n) := by
  intro j hj
  unfold emb
  split
  · exact ba 0 (by omega)
  · split
    · exact ba 1 (by omega)
    · split
      · exact ba 2 (by omega)
      · split
        · exact ba 3 (by omega)
        · exact bp j hj
theorem ext_bytes {X : Nat → Int} (bx : Bytes 16 X) (n : Int) : Bytes 4 (ext X n) := fun k hk => bx _ (at_lt n k hk)
theorem emb_cong (P : Nat → Int) {A B : Nat → Int} (h : EqTo A B 4) (n : Int) : emb P A n = emb P B n := by
  funext j
  unfold emb
  rw [h 0 (by omega), h 1 (by omega), h 2 (by omega), h 3 (by omega)]
theorem emb_inj {P A B : Nat → Int} {n : Int} (h : EqTo (emb P A n) (emb P B n) 16) : EqTo A B 4 := by
  intro k hk
  have := h (at_ n k) (at_lt n k hk)
  rw [← ext_emb P A n k hk, ← ext_emb P B n k hk]
  exact this
theorem a4_cong {A B : Nat → Int} (h : EqTo A B 4) : a4 A = a4 B := by
  unfold a4; rw [h 0 (by omega), h 1 (by omega), h 2 (by omega), h 3 (by omega)]
theorem a16_cong {A B : Nat → Int} (h : EqTo A B 16) : a16 A = a16 B := by
  unfold a16; rw [h 0 (by omega), h 1 (by omega), h 2 (by omega), h 3 (by omega), h 4 (by omega), h 5 (by omega), h 6 (by omega), h 7 (by omega), h 8 (by omega), h 9 (by omega), h 10 (by omega), h 11 (by omega), h 12 (by omega), h 13 (by omega), h 14 (by omega), h 15 (by omega)]
theorem zero_bytes (k : Nat) : Bytes k zero := fun j _ => by unfold zero; omega
end Go.Proofs.Ytafonnelennlhaa
