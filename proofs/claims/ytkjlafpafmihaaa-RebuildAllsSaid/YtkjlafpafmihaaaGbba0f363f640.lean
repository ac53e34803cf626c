/- Parts of proofs: lemmas on memory, on single functions and on the plain models; no condition of their own. -/
import Derived.Test.YtkjlafpafmihaaaRows
import Derived.WalkKit
import Derived.ProofKit
import Derived.OpenShut
import Derived.SizedLaws
import Derived.WalkSpells
import Derived.WalkLawsBesides
import Derived.Handy
import Derived.Deep.QuietTactic
import Derived.BigQuiet
import Derived.Lib.Hide
import Derived.Maps.AppendAt
import Derived.Deep.AppendLies
import Derived.RegionTactic
import Derived.OwnWalk
import Derived.Laws.Tables
import Derived.Deep.MidRow
import Derived.StillTailTactics
import Derived.OrdersHeld
import Derived.Deep.RegionHeld3
import Derived.Laws.IdiomCopy
import Derived.ChangeKeysEq
import Derived.Laws.BitsAllLaws
import Derived.Deep.DeepCutAuto
import Derived.Deep.CutRange
import Derived.Recover
import Derived.Defers
import Derived.Deep.RegionWith
import Derived.Test.YtkjlafpafmihaaaG411632d36699
import Derived.Test.YtkjlafpafmihaaaG48f6c12ab48d
import Derived.Test.YtkjlafpafmihaaaG497b255c2441
import Derived.Test.YtkjlafpafmihaaaG4e172fb27d17
import Derived.Test.YtkjlafpafmihaaaG4eaabf97d977
import Derived.Test.YtkjlafpafmihaaaG570539d87647
import Derived.Test.YtkjlafpafmihaaaG809794e4b789
import Derived.Test.YtkjlafpafmihaaaG924ec51911fe
import Derived.Test.YtkjlafpafmihaaaGc8683f30ddc5
import Derived.Test.YtkjlafpafmihaaaGc89f12b5a777
import Derived.Test.YtkjlafpafmihaaaGfa570c25a005
set_option linter.unusedVariables false
set_option linter.unusedSimpArgs false

namespace Go.Proofs.Ytkjlafpafmihaaa
open Go.ChangeShapes Go.WideShapes Go.RowKit

def Rcd.cells (r : Rcd) : List Value := [.int .i64 r.kind, .int .i64 r.queue, .int .i64 r.epoch, .int .i64 r.peer, .int .i64 r.ev.kind, .int .i64 r.ev.producer, .int .i64 r.ev.id, .int .i64 r.ev.body, .int .i64 r.ev.hepoch, .int .i64 r.ev.hno]
end Go.Proofs.Ytkjlafpafmihaaa

