/- The statement that this file ends with holds for every input, with no condition beyond its own. -/
import Derived.Test.YtgbhangfciiepaaGreatDoorC11
import Derived.Test.YtgbhangfciiepaaGreatDoorC15
set_option linter.all false
set_option linter.all false
namespace Go.Am
open Go
theorem law_c : LawC := fun nr R ns S lo hi => by
  have hR : R.map enR = recs (R.map fun r => (r.1, r.2.map Subtype.val)) := by
    rw [recs, List.map_map]
    refine List.map_congr_left fun r _ => ?_
    show encS' r.1 (r.2.map en32) = encS r.1 (flts (r.2.map Subtype.val))
    rw [encS'_eq, flts, List.map_map]; rfl
  rw [encS'_eq, encS'_eq, hR]
  refine c3 nr _ ns S lo hi fun r hr b hb => ?_
  obtain ⟨x, _, rfl⟩ := List.mem_map.1 hr
  obtain ⟨y, _, rfl⟩ := List.mem_map.1 hb
  exact y.2
end Go.Am
namespace Go.Proofs.YtgbhangfciiepaaGreatDoor
open Go.Am
/-- TopClipLines returns true for every input, and the input reads as it did. -/
theorem top_clip_lines : Rows.TopClipLinesCardSaid := lines_card law_c
#print axioms top_clip_lines
end Go.Proofs.YtgbhangfciiepaaGreatDoor
