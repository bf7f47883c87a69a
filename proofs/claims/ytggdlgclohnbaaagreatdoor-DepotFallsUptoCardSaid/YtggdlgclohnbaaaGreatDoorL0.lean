/- Structs of the program, as Lean structures. -/
import Derived.Test.YtggdlgclohnbaaaGreatDoorC1
set_option linter.unusedVariables false
set_option linter.unusedSimpArgs false
namespace Go.Proofs.YtggdlgclohnbaaaGreatDoor
open Go Go.RowKit Go.Sx
set_option maxRecDepth 100000
set_option maxHeartbeats 20000000
abbrev W (z:Int):Int:=IntKind.i64.wrap z
instance eqA6:DecidableEq (Int×Int×Int×Int×Int×Int):=inferInstance
instance inA6:Inhabited (Int×Int×Int×Int×Int×Int):=inferInstance
structure a7o where
 x:Int
 y:Int
 signed:Bool
 code:Int
 deriving DecidableEq,Inhabited
abbrev a7o.c (x:a7o):List D:= [DI x.x,DI x.y,DB x.signed, .v (.int .u8 x.code)]
structure a1y where
 msg:ByteArray
 addr:Int
 deriving DecidableEq,Inhabited
abbrev a1y.c (x:a1y):List D:= [.v (.string x.msg), .v (.int .u64 x.addr)]
structure c8 where
 No:Int
 Part:Int
 Parts:Int
 Size:Int
 Text:ByteArray
 deriving DecidableEq,Inhabited
abbrev c8.c (x:c8):List D:= [DI x.No,DI x.Part,DI x.Parts,DI x.Size, .v (.string x.Text)]
structure m7 where
 Thread:(List c8)
 Loose:(List c8)
 deriving DecidableEq,Inhabited
abbrev m7.c (x:m7):List D:= [lD 5 x.Thread c8.c,lD 5 x.Loose c8.c]
structure u0 where
 Depot:Int
 No:Int
 deriving DecidableEq,Inhabited
abbrev u0.c (x:u0):List D:= [DI x.Depot,DI x.No]
structure b9 where
 At:u0
 Kind:Int
 Day:Int
 Known:Int
 Of:u0
 Text:ByteArray
 deriving DecidableEq,Inhabited
abbrev b9.c (x:b9):List D:= [DI x.At.Depot,DI x.At.No,DI x.Kind,DI x.Day,DI x.Known,DI x.Of.Depot,DI x.Of.No, .v (.string x.Text)]
structure c4O where
 Kind:Int
 Record:(Int×Int×Int×Int×Int)
 Picks:(List Int)
 deriving DecidableEq,Inhabited
abbrev c4O.c (x:c4O):List D:= [DI x.Kind,DI x.Record.1,DI x.Record.2.1,DI x.Record.2.2.1,DI x.Record.2.2.2.1,DI x.Record.2.2.2.2,lD 1 x.Picks cI]
structure c1P where
 Record:b9
 Text:ByteArray
 No:Int
 Card:c8
 deriving DecidableEq,Inhabited
abbrev c1P.c (x:c1P):List D:= [DI x.Record.At.Depot,DI x.Record.At.No,DI x.Record.Kind,DI x.Record.Day,DI x.Record.Known,DI x.Record.Of.Depot,DI x.Record.Of.No, .v (.string x.Record.Text), .v (.string x.Text),DI x.No,DI x.Card.No,DI x.Card.Part,DI x.Card.Parts,DI x.Card.Size, .v (.string x.Card.Text)]
structure Q1 where
 Records:(List b9)
 deriving DecidableEq,Inhabited
abbrev Q1.c (x:Q1):List D:= [lD 8 x.Records b9.c]
structure b1o where
 From:Int
 To:Int
 Have:(Int×Int×Int×Int×Int×Int)
 Records:(List b9)
 deriving DecidableEq,Inhabited
abbrev b1o.c (x:b1o):List D:= [DI x.From,DI x.To,DI x.Have.1,DI x.Have.2.1,DI x.Have.2.2.1,DI x.Have.2.2.2.1,DI x.Have.2.2.2.2.1,DI x.Have.2.2.2.2.2,lD 8 x.Records b9.c]
structure c4K where
 Depot:Int
 To:Int
 Record:b9
 Message:b1o
 Picks:(List Int)
 Which:Int
 By:Int
 deriving DecidableEq,Inhabited
abbrev c4K.c (x:c4K):List D:= [DI x.Depot,DI x.To,DI x.Record.At.Depot,DI x.Record.At.No,DI x.Record.Kind,DI x.Record.Day,DI x.Record.Known,DI x.Record.Of.Depot,DI x.Record.Of.No, .v (.string x.Record.Text),DI x.Message.From,DI x.Message.To,DI x.Message.Have.1,DI x.Message.Have.2.1,DI x.Message.Have.2.2.1,DI x.Message.Have.2.2.2.1,DI x.Message.Have.2.2.2.2.1,DI x.Message.Have.2.2.2.2.2,lD 8 x.Message.Records b9.c,lD 1 x.Picks cI,DI x.Which,DI x.By]
structure b7h where
 Me:Int
 Box:m7
 Written:(List b9)
 Known:((Int×Int×Int×Int×Int×Int)×(Int×Int×Int×Int×Int×Int)×(Int×Int×Int×Int×Int×Int)×(Int×Int×Int×Int×Int×Int)×(Int×Int×Int×Int×Int×Int)×(Int×Int×Int×Int×Int×Int))
 deriving DecidableEq,Inhabited
abbrev b7h.c (x:b7h):List D:= [DI x.Me,lD 5 x.Box.Thread c8.c,lD 5 x.Box.Loose c8.c,lD 8 x.Written b9.c,DI x.Known.1.1,DI x.Known.1.2.1,DI x.Known.1.2.2.1,DI x.Known.1.2.2.2.1,DI x.Known.1.2.2.2.2.1,DI x.Known.1.2.2.2.2.2,DI x.Known.2.1.1,DI x.Known.2.1.2.1,DI x.Known.2.1.2.2.1,DI x.Known.2.1.2.2.2.1,DI x.Known.2.1.2.2.2.2.1,DI x.Known.2.1.2.2.2.2.2,DI x.Known.2.2.1.1,DI x.Known.2.2.1.2.1,DI x.Known.2.2.1.2.2.1,DI x.Known.2.2.1.2.2.2.1,DI x.Known.2.2.1.2.2.2.2.1,DI x.Known.2.2.1.2.2.2.2.2,DI x.Known.2.2.2.1.1,DI x.Known.2.2.2.1.2.1,DI x.Known.2.2.2.1.2.2.1,DI x.Known.2.2.2.1.2.2.2.1,DI x.Known.2.2.2.1.2.2.2.2.1,DI x.Known.2.2.2.1.2.2.2.2.2,DI x.Known.2.2.2.2.1.1,DI x.Known.2.2.2.2.1.2.1,DI x.Known.2.2.2.2.1.2.2.1,DI x.Known.2.2.2.2.1.2.2.2.1,DI x.Known.2.2.2.2.1.2.2.2.2.1,DI x.Known.2.2.2.2.1.2.2.2.2.2,DI x.Known.2.2.2.2.2.1,DI x.Known.2.2.2.2.2.2.1,DI x.Known.2.2.2.2.2.2.2.1,DI x.Known.2.2.2.2.2.2.2.2.1,DI x.Known.2.2.2.2.2.2.2.2.2.1,DI x.Known.2.2.2.2.2.2.2.2.2.2]
structure A1 where
 no:Int
 part:Int
 parts:Int
 deriving DecidableEq,Inhabited
abbrev A1.c (x:A1):List D:= [DI x.no,DI x.part,DI x.parts]
structure c5U where
 Kind:Int
 Depot:Int
 To:Int
 Record:(Int×Int×Int×Int×Int)
 Picks:(List Int)
 deriving DecidableEq,Inhabited
abbrev c5U.c (x:c5U):List D:= [DI x.Kind,DI x.Depot,DI x.To,DI x.Record.1,DI x.Record.2.1,DI x.Record.2.2.1,DI x.Record.2.2.2.1,DI x.Record.2.2.2.2,lD 1 x.Picks cI]
structure b8W where
 Depot:b7h
 deriving DecidableEq,Inhabited
abbrev b8W.c (x:b8W):List D:= [DI x.Depot.Me,lD 5 x.Depot.Box.Thread c8.c,lD 5 x.Depot.Box.Loose c8.c,lD 8 x.Depot.Written b9.c,DI x.Depot.Known.1.1,DI x.Depot.Known.1.2.1,DI x.Depot.Known.1.2.2.1,DI x.Depot.Known.1.2.2.2.1,DI x.Depot.Known.1.2.2.2.2.1,DI x.Depot.Known.1.2.2.2.2.2,DI x.Depot.Known.2.1.1,DI x.Depot.Known.2.1.2.1,DI x.Depot.Known.2.1.2.2.1,DI x.Depot.Known.2.1.2.2.2.1,DI x.Depot.Known.2.1.2.2.2.2.1,DI x.Depot.Known.2.1.2.2.2.2.2,DI x.Depot.Known.2.2.1.1,DI x.Depot.Known.2.2.1.2.1,DI x.Depot.Known.2.2.1.2.2.1,DI x.Depot.Known.2.2.1.2.2.2.1,DI x.Depot.Known.2.2.1.2.2.2.2.1,DI x.Depot.Known.2.2.1.2.2.2.2.2,DI x.Depot.Known.2.2.2.1.1,DI x.Depot.Known.2.2.2.1.2.1,DI x.Depot.Known.2.2.2.1.2.2.1,DI x.Depot.Known.2.2.2.1.2.2.2.1,DI x.Depot.Known.2.2.2.1.2.2.2.2.1,DI x.Depot.Known.2.2.2.1.2.2.2.2.2,DI x.Depot.Known.2.2.2.2.1.1,DI x.Depot.Known.2.2.2.2.1.2.1,DI x.Depot.Known.2.2.2.2.1.2.2.1,DI x.Depot.Known.2.2.2.2.1.2.2.2.1,DI x.Depot.Known.2.2.2.2.1.2.2.2.2.1,DI x.Depot.Known.2.2.2.2.1.2.2.2.2.2,DI x.Depot.Known.2.2.2.2.2.1,DI x.Depot.Known.2.2.2.2.2.2.1,DI x.Depot.Known.2.2.2.2.2.2.2.1,DI x.Depot.Known.2.2.2.2.2.2.2.2.1,DI x.Depot.Known.2.2.2.2.2.2.2.2.2.1,DI x.Depot.Known.2.2.2.2.2.2.2.2.2.2]
structure c7b where
 deriving DecidableEq,Inhabited
abbrev c7b.c (x:c7b):List D:= []
structure a6S where
 s:ByteArray
 deriving DecidableEq,Inhabited
abbrev a6S.c (x:a6S):List D:= [.v (.string x.s)]
theorem le1 {a1 a2:D} {z1:Nat}:leD (.tup [.agg [a1, .v (.slice none 0 0)],a2]) (.tup [.agg [a1, .lst z1 0 []],a2]):=⟨_,rfl,⟨⟨_,rfl,⟨c8x _,c8y,trivial⟩⟩,c8x _,trivial⟩⟩
theorem le2 {a1:D} {z1:Nat}:leD (.agg [a1, .v (.slice none 0 0)]) (.agg [a1, .lst z1 0 []]):=⟨_,rfl,⟨c8x _,c8y,trivial⟩⟩
theorem le3 {a1:D} {z1:Nat}:leD (.tup [.agg [.v (.slice none 0 0)],a1]) (.tup [.agg [.lst z1 0 []],a1]):=⟨_,rfl,⟨⟨_,rfl,⟨c8y,trivial⟩⟩,c8x _,trivial⟩⟩
theorem le4 {a1:D} {z1 z2 z3:Nat}:leD (.tup [.agg [.v (.slice none 0 0), .v (.slice none 0 0)], .v (.slice none 0 0),a1]) (.tup [.agg [.lst z1 0 [], .lst z2 0 []], .lst z3 0 [],a1]):=⟨_,rfl,⟨⟨_,rfl,⟨c8y,c8y,trivial⟩⟩,c8y,c8x _,trivial⟩⟩
theorem le5 {a1:D} {z1:Nat}:leD (.tup [.v (.slice none 0 0),a1]) (.tup [.lst z1 0 [],a1]):=⟨_,rfl,⟨c8y,c8x _,trivial⟩⟩
abbrev cf2:(List c8)→List D:=fun(x:(List c8))=> [lD 5 x c8.c]
theorem zy {f:FuncId} {fn:Func} {c:Code} {args:List D} {Q:D→Prop} (pl:List (Nat×PT)) (ln un inl:List Nat) (hf:Tryz.prog.funcs[f]?=some fn) (hb:fn.body=some c) (h:G0 ⟨Tryz.prog,tt,fn.ntmps,pl,ln,un, [],inl, []⟩ c ⟨a0p 0 args, [],0⟩ (c0x ⟨Tryz.prog,tt,fn.ntmps,pl,ln,un, [],inl, []⟩ fn.results.toList Q)) (hl:args.length≤fn.ntmps:=by exact F8 rfl) (hg:fn.ntmps≤F3:=by exact F8 rfl):o8 Tryz.prog f args Q:=
 c4z (X:=⟨Tryz.prog,tt,fn.ntmps,pl,ln,un, [],inl, []⟩) pok args hf hb rfl hl h rfl hg
theorem zn {f:FuncId} {fn:Func} {c:Code} {args:List D} {Q:D→Prop} (hf:Tryz.prog.funcs[f]?=some fn) (hb:fn.body=some c) (h:G0 ⟨Tryz.prog,tt,fn.ntmps, [], [], [], [], [], []⟩ c ⟨a0p 0 args, [],0⟩ (c0x ⟨Tryz.prog,tt,fn.ntmps, [], [], [], [], [], []⟩ fn.results.toList Q)) (hl:args.length≤fn.ntmps:=by exact F8 rfl) (hg:fn.ntmps≤F3:=by exact F8 rfl):o8 Tryz.prog f args Q:=zy [] [] [] [] hf hb h hl hg
abbrev nS:D:= .v (.slice none 0 0)
end Go.Proofs.YtggdlgclohnbaaaGreatDoor
