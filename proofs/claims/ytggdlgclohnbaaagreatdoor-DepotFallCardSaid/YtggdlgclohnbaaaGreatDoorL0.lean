/- Structs of the program, as Lean structures. -/
import Derived.Test.YtggdlgclohnbaaaGreatDoorC1
set_option linter.unusedVariables false
set_option linter.unusedSimpArgs false
namespace Go.Proofs.YtggdlgclohnbaaaGreatDoor
open Go Go.RowKit Go.Sx
set_option maxRecDepth 100000
set_option maxHeartbeats 20000000
abbrev W (z:Int):Int:=IntKind.i64.wrap z
instance eqA6:DecidableEq (Int×Int×Int×Int×Int×Int):=inferInstance
instance inA6:Inhabited (Int×Int×Int×Int×Int×Int):=inferInstance
structure TboundsError where
 x:Int
 y:Int
 signed:Bool
 code:Int
 deriving DecidableEq,Inhabited
abbrev TboundsError.c (x:TboundsError):List D:= [DI x.x,DI x.y,DB x.signed, .v (.int .u8 x.code)]
structure TerrorAddressString where
 msg:ByteArray
 addr:Int
 deriving DecidableEq,Inhabited
abbrev TerrorAddressString.c (x:TerrorAddressString):List D:= [.v (.string x.msg), .v (.int .u64 x.addr)]
structure TCard where
 No:Int
 Part:Int
 Parts:Int
 Size:Int
 Text:ByteArray
 deriving DecidableEq,Inhabited
abbrev TCard.c (x:TCard):List D:= [DI x.No,DI x.Part,DI x.Parts,DI x.Size, .v (.string x.Text)]
structure TBox where
 Thread:(List TCard)
 Loose:(List TCard)
 deriving DecidableEq,Inhabited
abbrev TBox.c (x:TBox):List D:= [lD 5 x.Thread TCard.c,lD 5 x.Loose TCard.c]
structure TItem where
 Depot:Int
 No:Int
 deriving DecidableEq,Inhabited
abbrev TItem.c (x:TItem):List D:= [DI x.Depot,DI x.No]
structure TRecord where
 At:TItem
 Kind:Int
 Day:Int
 Known:Int
 Of:TItem
 Text:ByteArray
 deriving DecidableEq,Inhabited
abbrev TRecord.c (x:TRecord):List D:= [DI x.At.Depot,DI x.At.No,DI x.Kind,DI x.Day,DI x.Known,DI x.Of.Depot,DI x.Of.No, .v (.string x.Text)]
structure TDeed where
 Kind:Int
 Record:(Int×Int×Int×Int×Int)
 Picks:(List Int)
 deriving DecidableEq,Inhabited
abbrev TDeed.c (x:TDeed):List D:= [DI x.Kind,DI x.Record.1,DI x.Record.2.1,DI x.Record.2.2.1,DI x.Record.2.2.2.1,DI x.Record.2.2.2.2,lD 1 x.Picks cI]
structure TAsked where
 Record:TRecord
 Text:ByteArray
 No:Int
 Card:TCard
 deriving DecidableEq,Inhabited
abbrev TAsked.c (x:TAsked):List D:= [DI x.Record.At.Depot,DI x.Record.At.No,DI x.Record.Kind,DI x.Record.Day,DI x.Record.Known,DI x.Record.Of.Depot,DI x.Record.Of.No, .v (.string x.Record.Text), .v (.string x.Text),DI x.No,DI x.Card.No,DI x.Card.Part,DI x.Card.Parts,DI x.Card.Size, .v (.string x.Card.Text)]
structure TBook where
 Records:(List TRecord)
 deriving DecidableEq,Inhabited
abbrev TBook.c (x:TBook):List D:= [lD 8 x.Records TRecord.c]
structure TMessage where
 From:Int
 To:Int
 Have:(Int×Int×Int×Int×Int×Int)
 Records:(List TRecord)
 deriving DecidableEq,Inhabited
abbrev TMessage.c (x:TMessage):List D:= [DI x.From,DI x.To,DI x.Have.1,DI x.Have.2.1,DI x.Have.2.2.1,DI x.Have.2.2.2.1,DI x.Have.2.2.2.2.1,DI x.Have.2.2.2.2.2,lD 8 x.Records TRecord.c]
structure TStep where
 Depot:Int
 To:Int
 Record:TRecord
 Message:TMessage
 Picks:(List Int)
 Which:Int
 By:Int
 deriving DecidableEq,Inhabited
abbrev TStep.c (x:TStep):List D:= [DI x.Depot,DI x.To,DI x.Record.At.Depot,DI x.Record.At.No,DI x.Record.Kind,DI x.Record.Day,DI x.Record.Known,DI x.Record.Of.Depot,DI x.Record.Of.No, .v (.string x.Record.Text),DI x.Message.From,DI x.Message.To,DI x.Message.Have.1,DI x.Message.Have.2.1,DI x.Message.Have.2.2.1,DI x.Message.Have.2.2.2.1,DI x.Message.Have.2.2.2.2.1,DI x.Message.Have.2.2.2.2.2,lD 8 x.Message.Records TRecord.c,lD 1 x.Picks cI,DI x.Which,DI x.By]
structure TDepot where
 Me:Int
 Box:TBox
 Written:(List TRecord)
 Known:((Int×Int×Int×Int×Int×Int)×(Int×Int×Int×Int×Int×Int)×(Int×Int×Int×Int×Int×Int)×(Int×Int×Int×Int×Int×Int)×(Int×Int×Int×Int×Int×Int)×(Int×Int×Int×Int×Int×Int))
 deriving DecidableEq,Inhabited
abbrev TDepot.c (x:TDepot):List D:= [DI x.Me,lD 5 x.Box.Thread TCard.c,lD 5 x.Box.Loose TCard.c,lD 8 x.Written TRecord.c,DI x.Known.1.1,DI x.Known.1.2.1,DI x.Known.1.2.2.1,DI x.Known.1.2.2.2.1,DI x.Known.1.2.2.2.2.1,DI x.Known.1.2.2.2.2.2,DI x.Known.2.1.1,DI x.Known.2.1.2.1,DI x.Known.2.1.2.2.1,DI x.Known.2.1.2.2.2.1,DI x.Known.2.1.2.2.2.2.1,DI x.Known.2.1.2.2.2.2.2,DI x.Known.2.2.1.1,DI x.Known.2.2.1.2.1,DI x.Known.2.2.1.2.2.1,DI x.Known.2.2.1.2.2.2.1,DI x.Known.2.2.1.2.2.2.2.1,DI x.Known.2.2.1.2.2.2.2.2,DI x.Known.2.2.2.1.1,DI x.Known.2.2.2.1.2.1,DI x.Known.2.2.2.1.2.2.1,DI x.Known.2.2.2.1.2.2.2.1,DI x.Known.2.2.2.1.2.2.2.2.1,DI x.Known.2.2.2.1.2.2.2.2.2,DI x.Known.2.2.2.2.1.1,DI x.Known.2.2.2.2.1.2.1,DI x.Known.2.2.2.2.1.2.2.1,DI x.Known.2.2.2.2.1.2.2.2.1,DI x.Known.2.2.2.2.1.2.2.2.2.1,DI x.Known.2.2.2.2.1.2.2.2.2.2,DI x.Known.2.2.2.2.2.1,DI x.Known.2.2.2.2.2.2.1,DI x.Known.2.2.2.2.2.2.2.1,DI x.Known.2.2.2.2.2.2.2.2.1,DI x.Known.2.2.2.2.2.2.2.2.2.1,DI x.Known.2.2.2.2.2.2.2.2.2.2]
structure Tplace where
 no:Int
 part:Int
 parts:Int
 deriving DecidableEq,Inhabited
abbrev Tplace.c (x:Tplace):List D:= [DI x.no,DI x.part,DI x.parts]
structure TAct where
 Kind:Int
 Depot:Int
 To:Int
 Record:(Int×Int×Int×Int×Int)
 Picks:(List Int)
 deriving DecidableEq,Inhabited
abbrev TAct.c (x:TAct):List D:= [DI x.Kind,DI x.Depot,DI x.To,DI x.Record.1,DI x.Record.2.1,DI x.Record.2.2.1,DI x.Record.2.2.2.1,DI x.Record.2.2.2.2,lD 1 x.Picks cI]
structure Tkeeper where
 Depot:TDepot
 deriving DecidableEq,Inhabited
abbrev Tkeeper.c (x:Tkeeper):List D:= [DI x.Depot.Me,lD 5 x.Depot.Box.Thread TCard.c,lD 5 x.Depot.Box.Loose TCard.c,lD 8 x.Depot.Written TRecord.c,DI x.Depot.Known.1.1,DI x.Depot.Known.1.2.1,DI x.Depot.Known.1.2.2.1,DI x.Depot.Known.1.2.2.2.1,DI x.Depot.Known.1.2.2.2.2.1,DI x.Depot.Known.1.2.2.2.2.2,DI x.Depot.Known.2.1.1,DI x.Depot.Known.2.1.2.1,DI x.Depot.Known.2.1.2.2.1,DI x.Depot.Known.2.1.2.2.2.1,DI x.Depot.Known.2.1.2.2.2.2.1,DI x.Depot.Known.2.1.2.2.2.2.2,DI x.Depot.Known.2.2.1.1,DI x.Depot.Known.2.2.1.2.1,DI x.Depot.Known.2.2.1.2.2.1,DI x.Depot.Known.2.2.1.2.2.2.1,DI x.Depot.Known.2.2.1.2.2.2.2.1,DI x.Depot.Known.2.2.1.2.2.2.2.2,DI x.Depot.Known.2.2.2.1.1,DI x.Depot.Known.2.2.2.1.2.1,DI x.Depot.Known.2.2.2.1.2.2.1,DI x.Depot.Known.2.2.2.1.2.2.2.1,DI x.Depot.Known.2.2.2.1.2.2.2.2.1,DI x.Depot.Known.2.2.2.1.2.2.2.2.2,DI x.Depot.Known.2.2.2.2.1.1,DI x.Depot.Known.2.2.2.2.1.2.1,DI x.Depot.Known.2.2.2.2.1.2.2.1,DI x.Depot.Known.2.2.2.2.1.2.2.2.1,DI x.Depot.Known.2.2.2.2.1.2.2.2.2.1,DI x.Depot.Known.2.2.2.2.1.2.2.2.2.2,DI x.Depot.Known.2.2.2.2.2.1,DI x.Depot.Known.2.2.2.2.2.2.1,DI x.Depot.Known.2.2.2.2.2.2.2.1,DI x.Depot.Known.2.2.2.2.2.2.2.2.1,DI x.Depot.Known.2.2.2.2.2.2.2.2.2.1,DI x.Depot.Known.2.2.2.2.2.2.2.2.2.2]
structure Tbad where
 deriving DecidableEq,Inhabited
abbrev Tbad.c (x:Tbad):List D:= []
structure TerrorString where
 s:ByteArray
 deriving DecidableEq,Inhabited
abbrev TerrorString.c (x:TerrorString):List D:= [.v (.string x.s)]
theorem le1 {a1 a2:D} {z1:Nat}:leD (.tup [.agg [a1, .v (.slice none 0 0)],a2]) (.tup [.agg [a1, .lst z1 0 []],a2]):=⟨_,rfl,⟨⟨_,rfl,⟨leD.refl _,leD.nil,trivial⟩⟩,leD.refl _,trivial⟩⟩
theorem le2 {a1:D} {z1:Nat}:leD (.agg [a1, .v (.slice none 0 0)]) (.agg [a1, .lst z1 0 []]):=⟨_,rfl,⟨leD.refl _,leD.nil,trivial⟩⟩
theorem le3 {a1:D} {z1:Nat}:leD (.tup [.agg [.v (.slice none 0 0)],a1]) (.tup [.agg [.lst z1 0 []],a1]):=⟨_,rfl,⟨⟨_,rfl,⟨leD.nil,trivial⟩⟩,leD.refl _,trivial⟩⟩
theorem le4 {a1:D} {z1 z2 z3:Nat}:leD (.tup [.agg [.v (.slice none 0 0), .v (.slice none 0 0)], .v (.slice none 0 0),a1]) (.tup [.agg [.lst z1 0 [], .lst z2 0 []], .lst z3 0 [],a1]):=⟨_,rfl,⟨⟨_,rfl,⟨leD.nil,leD.nil,trivial⟩⟩,leD.nil,leD.refl _,trivial⟩⟩
theorem le5 {a1:D} {z1:Nat}:leD (.tup [.v (.slice none 0 0),a1]) (.tup [.lst z1 0 [],a1]):=⟨_,rfl,⟨leD.nil,leD.refl _,trivial⟩⟩
end Go.Proofs.YtggdlgclohnbaaaGreatDoor
