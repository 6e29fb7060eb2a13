/- For the law of worlds: The row's closed facts. -/
import Derived.Test.YtfookmefmjhonaaGreatRows
import Derived.Test.YtfookmefmjhonaaGreatZ12
set_option linter.all false
namespace Go.Proofs.YtfookmefmjhonaaGreat
open Go.ChangeShapes Go.WideShapes Go.ChangeAt Go.RowKit
set_option maxHeartbeats 4000000 in
def JV:joinedFacts Tryz.pinned.checked.prog 3 Tryz.f3 (Rows.OpenSpec.upto Rows.topWorldSpec).bare Rows.topWorldUptoRow=true:=by
 unfold joinedFacts
 repeat' (with_reducible refine Bool.and_eq_true_iff.2 ⟨?_,?_⟩)
 all_goals as_aux_lemma=>kernel_rfl
def Oy:Tryz.f3.isWrapper Tryz.pinned.checked.prog Rows.topWorldUptoRow.wrapper Rows.topWorldUptoRow.mainSum:=by unfold Func.isWrapper;rw [if_neg (de kr)];exact ⟨rfl,rfl⟩
def JX:Tryz.pinned.checked.prog.funcNamed Rows.topWorldUptoRow.func=some 3:=by kernel_rfl
