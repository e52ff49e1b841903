/- A part of the proof. -/
import Derived.Test.YtmgjomaipafjkaaGreatDoorRows
import Derived.LaidByTextLater
import Derived.SevenTiedAt
set_option maxRecDepth 100000
set_option linter.all false
namespace Go.Pv.T
open Go Go.Proofs Go.Proofs.YtmgjomaipafjkaaGreatDoor
def L6 : List (String × DataW Unit) := [("deemster/text.levels", Rows.laid_deemster_text_levels), ("deemster/text.policies", Rows.laid_deemster_text_policies), ("unicode/utf8.acceptRanges", Rows.laid_unicode_utf8_acceptRanges), ("deemster/event.words", Rows.laid_deemster_event_words), ("math/bits.deBruijn64tab", Rows.laid_math_bits_deBruijn64tab), ("math/bits.deBruijn32tab", Rows.laid_math_bits_deBruijn32tab), ("deemster/text.verdicts", Rows.laid_deemster_text_verdicts), ("internal/strconv.uint64pow10", Rows.laid_internal_strconv_uint64pow10), ("deemster/script.firsts", Rows.laid_deemster_script_firsts)]
end Go.Pv.T
