/- Part 24 of the proof of GliderKnown: what the functions compute. No condition. -/
import Derived.Test.YtmhaiihjfgfaoaaGkGliderKnown3
import Derived.Test.YtmhaiihjfgfaoaaGkGliderKnown23
set_option linter.unusedVariables false
set_option linter.unusedSimpArgs false
section
/- The examples of the chapter. -/
namespace Go.Proofs.Ytmhaiihjfgfaoaa.Pure
open Go.RowKit Go.Proofs.Ytmhaiihjfgfaoaa.Pr Go.Proofs.YtmhaiihjfgfaoaaW.PrintWords Go.Proofs.YtmhaiihjfgfaoaaW.PrintLast
theorem GliderKnown : isobathlaw03_GliderKnown.Pure := ⟨300, isobathlaw03_GliderKnown.true_⟩
end Go.Proofs.Ytmhaiihjfgfaoaa.Pure
end
