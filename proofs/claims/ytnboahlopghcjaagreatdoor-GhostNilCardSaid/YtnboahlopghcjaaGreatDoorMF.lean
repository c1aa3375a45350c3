import Derived.Test.YtnboahlopghcjaaGreatDoorProg
import Derived.Test.YtnboahlopghcjaaGreatDoorMA
import Derived.Test.YtnboahlopghcjaaGreatDoorMB
set_option linter.unusedVariables false
namespace Go.Proofs.YtnboahlopghcjaaGreatDoor
open Go Go.bp
section
variable(a:OA)(b:AV)(d:AV)(K:KT)(w:World)
variable{a b d K w}
end
section
variable(a:OA)(b:AV)(K:KT)(w:World)
variable{a b K w}
end
section
variable(a:OA)(b:Addr)(c:OA)(d:Nat)(e:Nat)(f:OA)(g:Nat)(i:Nat)(j:Int)(Q:aJ)(w:World)
variable{a b c d e}
end
section
variable(a:OA)(b:Addr)(c:OA)(d:Nat)(e:Nat)(f:OA)(g:Nat)(i:Nat)(j:Int)(K:KT)(w:World)
end
section
variable(a:AV)(K:KT)(w:World)
variable{a K w}
end
section
variable(a:OA)(b:AV)(d:AV)(e:OA)(f:Nat)(g:Nat)(K:KT)(w:World)
variable{a b d e f g K w}
end
end Go.Proofs.YtnboahlopghcjaaGreatDoor
