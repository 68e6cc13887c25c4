/-
  The walk of the law EmbedNear: it returns true, and what was there stays. Condition: the arguments fit their kinds.
-/
import Derived.Test.YtafonnelennlhaaNear32
import Derived.Test.YtafonnelennlhaaNear40
import Derived.Test.YtafonnelennlhaaNear48
import Derived.Test.YtafonnelennlhaaNear56
import Derived.Test.YtafonnelennlhaaNear64
import Derived.Test.YtafonnelennlhaaNear96
namespace Go.Proofs.Ytafonnelennlhaa
open Go.RowKit

theorem near_walk (P X : Nat → Int) (n0 l t b : Int) (w : World) (bp : Bytes 16 P) (bx : Bytes 16 X) (hl : 0 ≤ l ∧ l ≤ 255) (ht : 0 ≤ t ∧ t ≤ 255) :
    Calls Try.prog 5 #[net P n0, .agg (a16 X), .int .u8 l, .int .u8 t, .int .u8 b] w fun e w' => e = .returned (.bool true) ∧ Below w.heap.size w w' := by
  have h1 : l.tmod 6 = l % 6 := Int.tmod_eq_emod_of_nonneg hl.1
  have h2 : t.tmod 16 = t % 16 := Int.tmod_eq_emod_of_nonneg ht.1
  have h3 : t.tmod 16 = ((t % 16).toNat : Int) := by rw [h2]; omega
  have hq : (t % 16).toNat < 16 := by omega
  rcases (by omega : l % 6 = 0 ∨ l % 6 = 1 ∨ l % 6 = 2 ∨ l % 6 = 3 ∨ l % 6 = 4 ∨ l % 6 = 5) with h | h | h | h | h | h <;> rw [h] at h1
  · exact near_32 P X n0 l t b _ w bp bx h1 h3 hq
  · exact near_40 P X n0 l t b _ w bp bx h1 h3 hq
  · exact near_48 P X n0 l t b _ w bp bx h1 h3 hq
  · exact near_56 P X n0 l t b _ w bp bx h1 h3 hq
  · exact near_64 P X n0 l t b _ w bp bx h1 h3 hq
  · exact near_96 P X n0 l t b _ w bp bx h1 h3 hq
end Go.Proofs.Ytafonnelennlhaa
