/- FnExactChecksum returns true for every string: the program's Checksum and the reference's give the same number and the same flag. No condition. -/
import Derived.Test.YtopfambmkmopkaaPFnExactChecksumx1
namespace Go.Proofs.Ytopfambmkmopkaa.Pure
open Go.RowKit Go.Proofs.Ytopfambmkmopkaa.PFnExactChecksum Go.Proofs.YtopfambmkmopkaaW.PrintWords Go.Proofs.YtopfambmkmopkaaW.PrintLast

theorem wrap_next {i n : Int} (h0 : 0 ≤ i) (h : i < n) (hn : n ≤ 140737488351232) : wrap64 (i + 1) = i + 1 := by
  unfold wrap64
  omega

theorem sums (s : ByteArray) (hn : s.size ≤ 140737488351232) (d : Nat) : ∀ (k : Nat) (h i : Int), 0 ≤ i → i ≤ s.size → (s.size : Int) - i = d → d < k →
    ∃ r, spec_l1Sum.l0 k s h i = some r ∧ impl_checksum.l0 k s h (s.size : Int) i = some r := by
  induction d with
  | zero =>
    intro k h i h0 h1 hd hk
    obtain ⟨k, rfl⟩ : ∃ m, k = m + 1 := ⟨k - 1, by omega⟩
    refine ⟨h, ?_, ?_⟩
    · simp only [spec_l1Sum.l0]; rw [if_neg (by omega)]
    · simp only [impl_checksum.l0]; rw [if_neg (by omega)]
  | succ d ih =>
    intro k h i h0 h1 hd hk
    obtain ⟨k, rfl⟩ : ∃ m, k = m + 1 := ⟨k - 1, by omega⟩
    have hlt : i < (s.size : Int) := by omega
    obtain ⟨r, ha, hb⟩ := ih k (Int.tmod (wrap64 ((wrap64 ((wrap64 (41 * h)) + (wrap64 (bt s i)))) + 1)) 999979) (i + 1) (by omega) (by omega) (by omega) (by omega)
    refine ⟨r, ?_, ?_⟩
    · simp only [spec_l1Sum.l0]; rw [if_pos hlt, if_pos h0, wrap_next h0 hlt (by omega)]; exact ha
    · simp only [impl_checksum.l0]; rw [if_pos hlt, if_pos h0, if_pos hlt, wrap_next h0 hlt (by omega)]; exact hb

theorem FnExactChecksum : laws_FnExactChecksum.Pure := by
  intro s hn
  obtain ⟨r, ha, hb⟩ := sums s hn s.size (s.size + 1) 7 0 (by omega) (by omega) (by omega) (by omega)
  refine ⟨s.size + 1, ?_⟩
  unfold laws_FnExactChecksum.f spec_Checksum.f impl_Checksum.f spec_l1Sum.f impl_checksum.f
  rw [ha, hb]
  split
  · rfl
  · split <;> simp

end Go.Proofs.Ytopfambmkmopkaa.Pure
