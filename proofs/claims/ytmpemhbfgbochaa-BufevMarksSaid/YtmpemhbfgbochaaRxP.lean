/-
  The two searches (a predicate in a list, a list in a list) as default arguments, so that a text need not spell them out. No program is named here.
-/
import Derived.Test.YtmpemhbfgbochaaRxS
namespace Go.RX
set_option linter.unusedSimpArgs false
set_option linter.unusedVariables false
set_option linter.unnecessarySimpa false
theorem pkk {L L' : List SP} {A : SP} (h : Pick L A L' := by repeat (first | with_reducible exact Pick.here | apply Pick.there | with_reducible apply Pick.right)) : Pick L A L' := h
theorem enn {L M : List SP} (h : Ent L M := by repeat (first | with_reducible exact Ent.same | exact Ent.nil | with_reducible exact Ent.left | (apply Ent.pick; focus ((repeat (first | with_reducible exact Pick.here | apply Pick.there | with_reducible apply Pick.right)); done)) | refine Ent.pure (by assumption) ?_ | apply Ent.ownNil | with_reducible apply Ent.right | exact Ent.left | exact Ent.same | refine Ent.skip ?_)) : Ent L M := h
end Go.RX
