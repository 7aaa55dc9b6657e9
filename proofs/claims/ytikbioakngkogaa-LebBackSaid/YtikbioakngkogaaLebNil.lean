/- AppendU and AppendS behind nothing. No condition but the number's range. -/
import Derived.Test.YtikbioakngkogaaLebApp
namespace Go.Proofs.Ytikbioakngkogaa
open Go.RowKit

theorem AppendU_nl (z : Int) (w : World) (h0 : 0 ≤ z) (h1 : z < 18446744073709551616) :
    Calls Try.prog 11 #[.slice none 0 0, .int .u64 z] w fun e w' => ∃ a L cap, e = .returned (.slice a L cap) ∧ L = (Leb.ap false 10 z).length ∧ Fresh w w' (.slice a L cap) (Leb.ap false 10 z) := by
  refine (AppendU_any _ [] z w (IsBs.nil w) (by decide) h0 h1).mono ?_
  rintro e w' ⟨v, rfl, h⟩
  rw [List.nil_append] at h
  obtain ⟨a, cap, rfl, _⟩ := h.is
  exact ⟨a, _, cap, rfl, rfl, h⟩
theorem AppendS_nl (z : Int) (w : World) (h0 : -9223372036854775808 ≤ z) (h1 : z < 9223372036854775808) :
    Calls Try.prog 12 #[.slice none 0 0, .int .i64 z] w fun e w' => ∃ a L cap, e = .returned (.slice a L cap) ∧ L = (Leb.ap true 10 z).length ∧ Fresh w w' (.slice a L cap) (Leb.ap true 10 z) := by
  refine (AppendS_any _ [] z w (IsBs.nil w) (by decide) h0 h1).mono ?_
  rintro e w' ⟨v, rfl, h⟩
  rw [List.nil_append] at h
  obtain ⟨a, cap, rfl, _⟩ := h.is
  exact ⟨a, _, cap, rfl, rfl, h⟩
end Go.Proofs.Ytikbioakngkogaa
