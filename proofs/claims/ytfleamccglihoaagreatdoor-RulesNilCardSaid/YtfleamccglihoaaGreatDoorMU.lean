import Derived.Test.YtfleamccglihoaaGreatDoorMT
import Derived.Test.YtfleamccglihoaaGreatDoorMN
open Go.IntKind (i64 u64)
set_option linter.unusedVariables false
namespace Go.Proofs.YtfleamccglihoaaGreatDoor
open Go Go.bE Go.RowKit
section
variable{w w':World}{F F' S:Nat->Prop}{A:Option Addr}{n:Nat}
end
section
variable{w w':World}{F F' S:Nat->Prop}{r x k:Nat}{G:GS}{K:Value->World->Prop}
end
section
variable{v v' u:World}{B0 xb rb n cp e ce nw cw:Nat}{x:q7}{A E W:Option Addr}{wd:List HT}{K:Value->World->Prop}
end
section
variable{y w w':World}{F F' S:Nat->Prop}{r x k:Nat}{G:GS}{K:Value->World->Prop}{B0 xb rb n cp e ce nw cw:Nat}{A E W:Option Addr}{s:HT}{l:List HT}
end
section
variable{y w w':World}{F F' S:Nat->Prop}{r x k:Nat}{G:GS}{K:Value->World->Prop}{B0 xb rb sb n cp e ce nw cw na ca:Nat}{A E W AA:Option Addr}{s:HT}{l all wd:List HT}
end
section
variable{w w':World}{F F' S:Nat->Prop}{r x k:Nat}{G:GS}{K:Value->World->Prop}{xb rb sb n cx:Nat}{A:Option Addr}{s:HT}{l:List HT}
end
section
variable{w w':World}{F F' S:Nat->Prop}{A:Option Addr}{n c B m bytes:Nat}{tS tE:TypeId}{news:List Value}
end
section
variable{w w':World}{F:Nat->Prop}{r x k:Nat}{G:GS}{K:Value->World->Prop}
end
section
variable{w w':World}{F:Nat->Prop}{r x k:Nat}{G:GS}{K:Value->World->Prop}{A:Option Addr}{n cx:Nat}{l:List HT}
end
end Go.Proofs.YtfleamccglihoaaGreatDoor
