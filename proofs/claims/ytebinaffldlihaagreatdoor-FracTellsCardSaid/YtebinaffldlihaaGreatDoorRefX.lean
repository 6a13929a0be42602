import Derived.Test.YtebinaffldlihaaGreatDoorRefQ
set_option linter.all false
namespace Go.Proofs.YtebinaffldlihaaGreatDoor
open Go.RowKit Go.Ab
attribute [local irreducible] AWP Go.Ab.Sub Means MeansH CallK CallG CallT CallGT CallU
end Go.Proofs.YtebinaffldlihaaGreatDoor
