/- Structs of the program, as Lean structures. -/
import Derived.Test.YtggdlgclohnbaaaGreatDoorC1
set_option linter.unusedVariables false
set_option linter.unusedSimpArgs false
namespace Go.Proofs.YtggdlgclohnbaaaGreatDoor
open Go Go.RowKit Go.Sx
set_option maxRecDepth 100000
set_option maxHeartbeats 20000000
abbrev W (z:Int):Int:=IntKind.i64.wrap z
instance eqA6:DecidableEq (Int×Int×Int×Int×Int×Int):=inferInstance
instance inA6:Inhabited (Int×Int×Int×Int×Int×Int):=inferInstance
structure a7T where
 x:Int
 y:Int
 signed:Bool
 code:Int
 deriving DecidableEq,Inhabited
abbrev a7T.c (x:a7T):List D:= [DI x.x,DI x.y,DB x.signed, .v (.int .u8 x.code)]
structure a1H where
 msg:ByteArray
 addr:Int
 deriving DecidableEq,Inhabited
abbrev a1H.c (x:a1H):List D:= [.v (.string x.msg), .v (.int .u64 x.addr)]
structure c8 where
 No:Int
 Part:Int
 Parts:Int
 Size:Int
 Text:ByteArray
 deriving DecidableEq,Inhabited
abbrev c8.c (x:c8):List D:= [DI x.No,DI x.Part,DI x.Parts,DI x.Size, .v (.string x.Text)]
structure l7 where
 Thread:(List c8)
 Loose:(List c8)
 deriving DecidableEq,Inhabited
abbrev l7.c (x:l7):List D:= [lD 5 x.Thread c8.c,lD 5 x.Loose c8.c]
structure o6 where
 Depot:Int
 No:Int
 deriving DecidableEq,Inhabited
abbrev o6.c (x:o6):List D:= [DI x.Depot,DI x.No]
structure b9 where
 At:o6
 Kind:Int
 Day:Int
 Known:Int
 Of:o6
 Text:ByteArray
 deriving DecidableEq,Inhabited
abbrev b9.c (x:b9):List D:= [DI x.At.Depot,DI x.At.No,DI x.Kind,DI x.Day,DI x.Known,DI x.Of.Depot,DI x.Of.No, .v (.string x.Text)]
structure c5t where
 Kind:Int
 Record:(Int×Int×Int×Int×Int)
 Picks:(List Int)
 deriving DecidableEq,Inhabited
abbrev c5t.c (x:c5t):List D:= [DI x.Kind,DI x.Record.1,DI x.Record.2.1,DI x.Record.2.2.1,DI x.Record.2.2.2.1,DI x.Record.2.2.2.2,lD 1 x.Picks cI]
structure c1N where
 Record:b9
 Text:ByteArray
 No:Int
 Card:c8
 deriving DecidableEq,Inhabited
abbrev c1N.c (x:c1N):List D:= [DI x.Record.At.Depot,DI x.Record.At.No,DI x.Record.Kind,DI x.Record.Day,DI x.Record.Known,DI x.Record.Of.Depot,DI x.Record.Of.No, .v (.string x.Record.Text), .v (.string x.Text),DI x.No,DI x.Card.No,DI x.Card.Part,DI x.Card.Parts,DI x.Card.Size, .v (.string x.Card.Text)]
structure D1 where
 Records:(List b9)
 deriving DecidableEq,Inhabited
abbrev D1.c (x:D1):List D:= [lD 8 x.Records b9.c]
structure b1Z where
 From:Int
 To:Int
 Have:(Int×Int×Int×Int×Int×Int)
 Records:(List b9)
 deriving DecidableEq,Inhabited
abbrev b1Z.c (x:b1Z):List D:= [DI x.From,DI x.To,DI x.Have.1,DI x.Have.2.1,DI x.Have.2.2.1,DI x.Have.2.2.2.1,DI x.Have.2.2.2.2.1,DI x.Have.2.2.2.2.2,lD 8 x.Records b9.c]
structure c5u where
 Depot:Int
 To:Int
 Record:b9
 Message:b1Z
 Picks:(List Int)
 Which:Int
 By:Int
 deriving DecidableEq,Inhabited
abbrev c5u.c (x:c5u):List D:= [DI x.Depot,DI x.To,DI x.Record.At.Depot,DI x.Record.At.No,DI x.Record.Kind,DI x.Record.Day,DI x.Record.Known,DI x.Record.Of.Depot,DI x.Record.Of.No, .v (.string x.Record.Text),DI x.Message.From,DI x.Message.To,DI x.Message.Have.1,DI x.Message.Have.2.1,DI x.Message.Have.2.2.1,DI x.Message.Have.2.2.2.1,DI x.Message.Have.2.2.2.2.1,DI x.Message.Have.2.2.2.2.2,lD 8 x.Message.Records b9.c,lD 1 x.Picks cI,DI x.Which,DI x.By]
structure b7v where
 Me:Int
 Box:l7
 Written:(List b9)
 Known:((Int×Int×Int×Int×Int×Int)×(Int×Int×Int×Int×Int×Int)×(Int×Int×Int×Int×Int×Int)×(Int×Int×Int×Int×Int×Int)×(Int×Int×Int×Int×Int×Int)×(Int×Int×Int×Int×Int×Int))
 deriving DecidableEq,Inhabited
abbrev b7v.c (x:b7v):List D:= [DI x.Me,lD 5 x.Box.Thread c8.c,lD 5 x.Box.Loose c8.c,lD 8 x.Written b9.c,DI x.Known.1.1,DI x.Known.1.2.1,DI x.Known.1.2.2.1,DI x.Known.1.2.2.2.1,DI x.Known.1.2.2.2.2.1,DI x.Known.1.2.2.2.2.2,DI x.Known.2.1.1,DI x.Known.2.1.2.1,DI x.Known.2.1.2.2.1,DI x.Known.2.1.2.2.2.1,DI x.Known.2.1.2.2.2.2.1,DI x.Known.2.1.2.2.2.2.2,DI x.Known.2.2.1.1,DI x.Known.2.2.1.2.1,DI x.Known.2.2.1.2.2.1,DI x.Known.2.2.1.2.2.2.1,DI x.Known.2.2.1.2.2.2.2.1,DI x.Known.2.2.1.2.2.2.2.2,DI x.Known.2.2.2.1.1,DI x.Known.2.2.2.1.2.1,DI x.Known.2.2.2.1.2.2.1,DI x.Known.2.2.2.1.2.2.2.1,DI x.Known.2.2.2.1.2.2.2.2.1,DI x.Known.2.2.2.1.2.2.2.2.2,DI x.Known.2.2.2.2.1.1,DI x.Known.2.2.2.2.1.2.1,DI x.Known.2.2.2.2.1.2.2.1,DI x.Known.2.2.2.2.1.2.2.2.1,DI x.Known.2.2.2.2.1.2.2.2.2.1,DI x.Known.2.2.2.2.1.2.2.2.2.2,DI x.Known.2.2.2.2.2.1,DI x.Known.2.2.2.2.2.2.1,DI x.Known.2.2.2.2.2.2.2.1,DI x.Known.2.2.2.2.2.2.2.2.1,DI x.Known.2.2.2.2.2.2.2.2.2.1,DI x.Known.2.2.2.2.2.2.2.2.2.2]
structure A1 where
 no:Int
 part:Int
 parts:Int
 deriving DecidableEq,Inhabited
abbrev A1.c (x:A1):List D:= [DI x.no,DI x.part,DI x.parts]
structure c6V where
 Kind:Int
 Depot:Int
 To:Int
 Record:(Int×Int×Int×Int×Int)
 Picks:(List Int)
 deriving DecidableEq,Inhabited
abbrev c6V.c (x:c6V):List D:= [DI x.Kind,DI x.Depot,DI x.To,DI x.Record.1,DI x.Record.2.1,DI x.Record.2.2.1,DI x.Record.2.2.2.1,DI x.Record.2.2.2.2,lD 1 x.Picks cI]
structure b9v where
 Depot:b7v
 deriving DecidableEq,Inhabited
abbrev b9v.c (x:b9v):List D:= [DI x.Depot.Me,lD 5 x.Depot.Box.Thread c8.c,lD 5 x.Depot.Box.Loose c8.c,lD 8 x.Depot.Written b9.c,DI x.Depot.Known.1.1,DI x.Depot.Known.1.2.1,DI x.Depot.Known.1.2.2.1,DI x.Depot.Known.1.2.2.2.1,DI x.Depot.Known.1.2.2.2.2.1,DI x.Depot.Known.1.2.2.2.2.2,DI x.Depot.Known.2.1.1,DI x.Depot.Known.2.1.2.1,DI x.Depot.Known.2.1.2.2.1,DI x.Depot.Known.2.1.2.2.2.1,DI x.Depot.Known.2.1.2.2.2.2.1,DI x.Depot.Known.2.1.2.2.2.2.2,DI x.Depot.Known.2.2.1.1,DI x.Depot.Known.2.2.1.2.1,DI x.Depot.Known.2.2.1.2.2.1,DI x.Depot.Known.2.2.1.2.2.2.1,DI x.Depot.Known.2.2.1.2.2.2.2.1,DI x.Depot.Known.2.2.1.2.2.2.2.2,DI x.Depot.Known.2.2.2.1.1,DI x.Depot.Known.2.2.2.1.2.1,DI x.Depot.Known.2.2.2.1.2.2.1,DI x.Depot.Known.2.2.2.1.2.2.2.1,DI x.Depot.Known.2.2.2.1.2.2.2.2.1,DI x.Depot.Known.2.2.2.1.2.2.2.2.2,DI x.Depot.Known.2.2.2.2.1.1,DI x.Depot.Known.2.2.2.2.1.2.1,DI x.Depot.Known.2.2.2.2.1.2.2.1,DI x.Depot.Known.2.2.2.2.1.2.2.2.1,DI x.Depot.Known.2.2.2.2.1.2.2.2.2.1,DI x.Depot.Known.2.2.2.2.1.2.2.2.2.2,DI x.Depot.Known.2.2.2.2.2.1,DI x.Depot.Known.2.2.2.2.2.2.1,DI x.Depot.Known.2.2.2.2.2.2.2.1,DI x.Depot.Known.2.2.2.2.2.2.2.2.1,DI x.Depot.Known.2.2.2.2.2.2.2.2.2.1,DI x.Depot.Known.2.2.2.2.2.2.2.2.2.2]
structure c7A where
 deriving DecidableEq,Inhabited
abbrev c7A.c (x:c7A):List D:= []
structure a7x where
 s:ByteArray
 deriving DecidableEq,Inhabited
abbrev a7x.c (x:a7x):List D:= [.v (.string x.s)]
theorem le1 {a1 a2:D} {z1:Nat}:leD (.tup [.agg [a1, .v (.slice none 0 0)],a2]) (.tup [.agg [a1, .lst z1 0 []],a2]):=⟨_,rfl,⟨⟨_,rfl,⟨c9l _,c9m,trivial⟩⟩,c9l _,trivial⟩⟩
theorem le2 {a1:D} {z1:Nat}:leD (.agg [a1, .v (.slice none 0 0)]) (.agg [a1, .lst z1 0 []]):=⟨_,rfl,⟨c9l _,c9m,trivial⟩⟩
theorem le3 {a1:D} {z1:Nat}:leD (.tup [.agg [.v (.slice none 0 0)],a1]) (.tup [.agg [.lst z1 0 []],a1]):=⟨_,rfl,⟨⟨_,rfl,⟨c9m,trivial⟩⟩,c9l _,trivial⟩⟩
theorem le4 {a1:D} {z1 z2 z3:Nat}:leD (.tup [.agg [.v (.slice none 0 0), .v (.slice none 0 0)], .v (.slice none 0 0),a1]) (.tup [.agg [.lst z1 0 [], .lst z2 0 []], .lst z3 0 [],a1]):=⟨_,rfl,⟨⟨_,rfl,⟨c9m,c9m,trivial⟩⟩,c9m,c9l _,trivial⟩⟩
theorem le5 {a1:D} {z1:Nat}:leD (.tup [.v (.slice none 0 0),a1]) (.tup [.lst z1 0 [],a1]):=⟨_,rfl,⟨c9m,c9l _,trivial⟩⟩
abbrev cf2:(List c8)→List D:=fun(x:(List c8))=> [lD 5 x c8.c]
theorem zy {f:FuncId} {fn:Func} {c:Code} {args:List D} {Q:D→Prop} (pl:List (Nat×PT)) (ln un inl:List Nat) (hf:Tryz.prog.funcs[f]?=some fn) (hb:fn.body=some c) (h:G5 ⟨Tryz.prog,tt,fn.ntmps,pl,ln,un, [],inl, []⟩ c ⟨a0t 0 args, [],0⟩ (c0x ⟨Tryz.prog,tt,fn.ntmps,pl,ln,un, [],inl, []⟩ fn.results.toList Q)) (hl:args.length≤fn.ntmps:=by exact F7 rfl) (hg:fn.ntmps≤E7:=by exact F7 rfl):q8 Tryz.prog f args Q:=
 c4L (X:=⟨Tryz.prog,tt,fn.ntmps,pl,ln,un, [],inl, []⟩) pok args hf hb rfl hl h rfl hg
theorem zn {f:FuncId} {fn:Func} {c:Code} {args:List D} {Q:D→Prop} (hf:Tryz.prog.funcs[f]?=some fn) (hb:fn.body=some c) (h:G5 ⟨Tryz.prog,tt,fn.ntmps, [], [], [], [], [], []⟩ c ⟨a0t 0 args, [],0⟩ (c0x ⟨Tryz.prog,tt,fn.ntmps, [], [], [], [], [], []⟩ fn.results.toList Q)) (hl:args.length≤fn.ntmps:=by exact F7 rfl) (hg:fn.ntmps≤E7:=by exact F7 rfl):q8 Tryz.prog f args Q:=zy [] [] [] [] hf hb h hl hg
abbrev nS:D:= .v (.slice none 0 0)
end Go.Proofs.YtggdlgclohnbaaaGreatDoor
