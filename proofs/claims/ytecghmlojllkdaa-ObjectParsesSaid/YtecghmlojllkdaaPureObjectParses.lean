import Derived.Test.YtecghmlojllkdaaP24
import Derived.Test.YtecghmlojllkdaaC2
import Derived.Test.YtecghmlojllkdaaC3
namespace Go.Proofs.Ytecghmlojllkdaa.Pure
open Go.RowKit Go.Proofs.Ytecghmlojllkdaa.P Go.Proofs.YtecghmlojllkdaaW.PrintWords Go.Proofs.YtecghmlojllkdaaW.PrintLast
set_option linter.unusedVariables false
set_option linter.unusedSimpArgs false

theorem bytes_wf {l : List Int} (h : ∀ x ∈ l, (Lit.int .u8 x).wf = true) : Bytes l := by
  intro x hx
  have := h x hx
  simp [Lit.wf, IntKind.min, IntKind.max, IntKind.signed, IntKind.bits] at this
  omega

theorem object_Parse_f {l : List Int} (hb : Bytes l) : object_Parse.f l = some (parseO l) := by
  unfold object_Parse.f
  rw [if_pos ((bytesB_iff l).2 hb)]

theorem ObjectParses : postroadlaw07_ObjectParses.Pure := by
  intro l0 hm hs hwf
  have hb := bytes_wf hwf
  by_cases h4 : (l0.length : Int) > 4000
  · exact ⟨1, by rw [postroadlaw07_ObjectParses.f, if_pos h4]; rfl⟩
  · obtain ⟨B, hB⟩ := parse_l0 l0 hb (by omega) (l0.length + 1) 0 [] (by omega) (by omega) (by simp)
    refine ⟨B + 6000, ?_⟩
    have hp : postroadref07_Parse.f (B + 6000) l0 = some (refAt l0 (l0.length + 1) 0 []) := hB _ (by omega)
    rw [postroadlaw07_ObjectParses.f, if_neg h4, object_Parse_f hb, hp, Option.bind_some, Option.bind_some]
    by_cases hg : (scanAt l0 (l0.length + 1) 0).2 = true ∧ (scanAt l0 (l0.length + 1) 0).1.length ≤ 40
    · have h1 : parseO l0 = ((scanAt l0 (l0.length + 1) 0).1, 0) := by rw [parseO, if_neg (by omega), if_pos hg]
      have h2 : refAt l0 (l0.length + 1) 0 [] = ((scanAt l0 (l0.length + 1) 0).1, true) := by rw [refAt, if_pos ⟨hg.1, by simpa using hg.2⟩]; rfl
      obtain ⟨s1, s2⟩ := scan_ser l0 hb (l0.length + 1) 0 (scanAt l0 (l0.length + 1) 0).1 (by omega) (by rw [← hg.1])
      rw [h1, h2, if_pos rfl, raw_f _ hg.2 s2 _ (by omega), Option.bind_some, if_pos rfl, same_f _ hg.2 s2 _ (by omega), Option.bind_some, if_pos rfl, if_pos rfl, if_pos (by rw [s1]; rfl)]
      rfl
    · have h1 : parseO l0 = ([], 170) := by rw [parseO, if_neg (by omega), if_neg hg]
      have h2 : refAt l0 (l0.length + 1) 0 [] = ([], false) := by rw [refAt, if_neg (by simpa using hg)]
      rw [h1, h2, if_neg (by simp)]
      rfl

end Go.Proofs.Ytecghmlojllkdaa.Pure
