import Derived.Test.YtfleamccglihoaaGreatDoorProg
import Derived.Test.YtfleamccglihoaaGreatDoorMA
import Derived.Test.YtfleamccglihoaaGreatDoorMB
open Go.IntKind (i64 u64)
set_option linter.unusedVariables false
namespace Go.Proofs.YtfleamccglihoaaGreatDoor
open Go Go.bE
section
variable(a:OA)(b:AV)(K:KT)(w:World)
variable{a b K w}
end
section
variable(a:OA)(b:Addr)(c:OA)(d e:Nat)(f:OA)(g i:Nat)(j:Int)(Q:aM)(w:World)
variable{a b c d e}
end
section
variable(a:OA)(b:Addr)(c:OA)(d e:Nat)(f:OA)(g i:Nat)(j:Int)(K:KT)(w:World)
end
section
variable(a:AV)(K:KT)(w:World)
variable{a K w}
end
section
variable(a:OA)(b d:AV)(e:OA)(f g:Nat)(K:KT)(w:World)
variable{a b d e f g K w}
end
end Go.Proofs.YtfleamccglihoaaGreatDoor
