/- A part of the proof. -/
import Derived.Test.YtmgjomaipafjkaaGreatDoorDTa
import Derived.Test.YtmgjomaipafjkaaGreatDoorDTb
set_option maxRecDepth 100000
set_option linter.all false
namespace Go.Pv.T
open Go Go.Proofs Go.Proofs.YtmgjomaipafjkaaGreatDoor
theorem tie6 : Tryz.prog.laidByTextLater L6 [.data, .data, .data, .data, .data, .data, .data, .data, .data] true :=
  Program.laidByTextLater_by_run 400 8 hw hw' hroot hk hg hn hd h1 h2
theorem pin_laid_unicode_utf8_first : Tryz.pinned.checked.prog.pinnedFits "unicode/utf8.first" = true := by kernel_rfl
theorem noOwnUnsafe : Tryz.pinned.checked.prog.headLifts.contains "ownunsafe" = false := by kernel_rfl
theorem fits6 : Tryz.pinned.checked.prog.listedFits [("deemster/text.levels", Rows.laid_deemster_text_levels), ("deemster/text.policies", Rows.laid_deemster_text_policies), ("unicode/utf8.first", Rows.laid_unicode_utf8_first), ("unicode/utf8.acceptRanges", Rows.laid_unicode_utf8_acceptRanges), ("deemster/event.words", Rows.laid_deemster_event_words), ("math/bits.deBruijn64tab", Rows.laid_math_bits_deBruijn64tab), ("math/bits.deBruijn32tab", Rows.laid_math_bits_deBruijn32tab), ("deemster/text.verdicts", Rows.laid_deemster_text_verdicts), ("internal/strconv.uint64pow10", Rows.laid_internal_strconv_uint64pow10), ("deemster/script.firsts", Rows.laid_deemster_script_firsts)] = true := by
  unfold Program.listedFits
  rw [noOwnUnsafe]
  kernel_rfl
theorem deskNone_row_tie : Rows.deskNoneRow.laidByTextAt .later Tryz.pinned [.data, .data, .pinned, .data, .data, .data, .data, .data, .data, .data] true :=
  OpenClaim.laidByTextAt_pinned rfl rfl tie6 rfl rfl rfl rfl (fun y hy _e => by
    simp only [Rows.deskNoneRow, List.zip_cons_cons, List.zip_nil_right, List.mem_cons, List.mem_nil_iff, or_false] at hy
    rcases hy with rfl | rfl | rfl | rfl | rfl | rfl | rfl | rfl | rfl | rfl
    · cases _e
    · cases _e
    · exact ⟨pin_laid_unicode_utf8_first, by kernel_rfl⟩
    · cases _e
    · cases _e
    · cases _e
    · cases _e
    · cases _e
    · cases _e
    · cases _e) fits6
end Go.Pv.T
