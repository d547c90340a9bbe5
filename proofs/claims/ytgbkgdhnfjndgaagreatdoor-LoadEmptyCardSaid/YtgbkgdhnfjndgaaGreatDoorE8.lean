import Derived.Test.YtgbkgdhnfjndgaaGreatDoorE7
/- A part of the proof: a calculus of values over the model, and the functions that the statement reaches, each once, in that calculus. -/
set_option linter.all false
set_option linter.unusedSimpArgs false
set_option linter.unusedVariables false

/- Part Ad3b. -/
/- The closed facts of LoadEmpty' row. -/
set_option linter.unusedSimpArgs false
set_option linter.unusedVariables false
namespace Gx
open Go Go.Proofs Go.RowKit Go.ChangeShapes Go.WideShapes Go.Lib
open Go.Proofs.YtgbkgdhnfjndgaaGreatDoor

set_option maxHeartbeats 4000000 in
set_option maxRecDepth 100000 in
theorem facts3 : joinedFacts Tryz.pinned.checked.prog 3 Tryz.f3 (OpenSpec.ofChange Rows.loadEmptySpec).bare Rows.loadEmptyRow = true := by
  unfold joinedFacts
  iterate 30 (refine and_mk ?_ (by as_aux_lemma => kernel_rfl))
  as_aux_lemma => kernel_rfl
end Gx
