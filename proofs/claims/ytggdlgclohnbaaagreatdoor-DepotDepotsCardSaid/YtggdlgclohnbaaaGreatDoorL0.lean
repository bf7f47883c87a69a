/- Functions as Lean functions. -/
import Derived.Test.YtggdlgclohnbaaaGreatDoorC1
set_option linter.unusedVariables false
set_option linter.unusedSimpArgs false
namespace Go.Proofs.YtggdlgclohnbaaaGreatDoor
open Go Go.RowKit Go.Sx
set_option maxRecDepth 100000
set_option maxHeartbeats 20000000
abbrev W(z:Int):Int:=IntKind.i64.wrap z
instance eqA6:DecidableEq (Int×Int×Int×Int×Int×Int):=inferInstance
instance inA6:Inhabited (Int×Int×Int×Int×Int×Int):=inferInstance
structure b1C where
 x:Int
 y:Int
 signed:Bool
 code:Int
 deriving DecidableEq,Inhabited
abbrev b1C.c(x:b1C):List D:=[DI x.x,DI x.y,DB x.signed,.v (.int .u8 x.code)]
structure a4L where
 msg:ByteArray
 addr:Int
 deriving DecidableEq,Inhabited
abbrev a4L.c(x:a4L):List D:=[.v (.string x.msg),.v (.int .u64 x.addr)]
structure d8 where
 No:Int
 Part:Int
 Parts:Int
 Size:Int
 Text:ByteArray
 deriving DecidableEq,Inhabited
abbrev d8.c(x:d8):List D:=[DI x.No,DI x.Part,DI x.Parts,DI x.Size,.v (.string x.Text)]
structure n9 where
 Thread:(List d8)
 Loose:(List d8)
 deriving DecidableEq,Inhabited
abbrev n9.c(x:n9):List D:=[lD 5 x.Thread d8.c,lD 5 x.Loose d8.c]
structure o4 where
 Depot:Int
 No:Int
 deriving DecidableEq,Inhabited
abbrev o4.c(x:o4):List D:=[DI x.Depot,DI x.No]
structure b9 where
 At:o4
 Kind:Int
 Day:Int
 Known:Int
 Of:o4
 Text:ByteArray
 deriving DecidableEq,Inhabited
abbrev b9.c(x:b9):List D:=[DI x.At.Depot,DI x.At.No,DI x.Kind,DI x.Day,DI x.Known,DI x.Of.Depot,DI x.Of.No,.v (.string x.Text)]
structure d0V where
 Kind:Int
 Record:(Int×Int×Int×Int×Int)
 Picks:(List Int)
 deriving DecidableEq,Inhabited
abbrev d0V.c(x:d0V):List D:=[DI x.Kind,DI x.Record.1,DI x.Record.2.1,DI x.Record.2.2.1,DI x.Record.2.2.2.1,DI x.Record.2.2.2.2,lD 1 x.Picks cI]
structure c7Z where
 Record:b9
 Text:ByteArray
 No:Int
 Card:d8
 deriving DecidableEq,Inhabited
abbrev c7Z.c(x:c7Z):List D:=[DI x.Record.At.Depot,DI x.Record.At.No,DI x.Record.Kind,DI x.Record.Day,DI x.Record.Known,DI x.Record.Of.Depot,DI x.Record.Of.No,.v (.string x.Record.Text),.v (.string x.Text),DI x.No,DI x.Card.No,DI x.Card.Part,DI x.Card.Parts,DI x.Card.Size,.v (.string x.Card.Text)]
structure I4 where
 Records:(List b9)
 deriving DecidableEq,Inhabited
abbrev I4.c(x:I4):List D:=[lD 8 x.Records b9.c]
structure c8 where
 From:Int
 To:Int
 Have:(Int×Int×Int×Int×Int×Int)
 Records:(List b9)
 deriving DecidableEq,Inhabited
abbrev c8.c(x:c8):List D:=[DI x.From,DI x.To,DI x.Have.1,DI x.Have.2.1,DI x.Have.2.2.1,DI x.Have.2.2.2.1,DI x.Have.2.2.2.2.1,DI x.Have.2.2.2.2.2,lD 8 x.Records b9.c]
structure a1c where
 Depot:Int
 To:Int
 Record:b9
 Message:c8
 Picks:(List Int)
 Which:Int
 By:Int
 deriving DecidableEq,Inhabited
abbrev a1c.c(x:a1c):List D:=[DI x.Depot,DI x.To,DI x.Record.At.Depot,DI x.Record.At.No,DI x.Record.Kind,DI x.Record.Day,DI x.Record.Known,DI x.Record.Of.Depot,DI x.Record.Of.No,.v (.string x.Record.Text),DI x.Message.From,DI x.Message.To,DI x.Message.Have.1,DI x.Message.Have.2.1,DI x.Message.Have.2.2.1,DI x.Message.Have.2.2.2.1,DI x.Message.Have.2.2.2.2.1,DI x.Message.Have.2.2.2.2.2,lD 8 x.Message.Records b9.c,lD 1 x.Picks cI,DI x.Which,DI x.By]
structure e9 where
 Me:Int
 Box:n9
 Written:(List b9)
 Known:((Int×Int×Int×Int×Int×Int)×(Int×Int×Int×Int×Int×Int)×(Int×Int×Int×Int×Int×Int)×(Int×Int×Int×Int×Int×Int)×(Int×Int×Int×Int×Int×Int)×(Int×Int×Int×Int×Int×Int))
 deriving DecidableEq,Inhabited
abbrev e9.c(x:e9):List D:=[DI x.Me,lD 5 x.Box.Thread d8.c,lD 5 x.Box.Loose d8.c,lD 8 x.Written b9.c,DI x.Known.1.1,DI x.Known.1.2.1,DI x.Known.1.2.2.1,DI x.Known.1.2.2.2.1,DI x.Known.1.2.2.2.2.1,DI x.Known.1.2.2.2.2.2,DI x.Known.2.1.1,DI x.Known.2.1.2.1,DI x.Known.2.1.2.2.1,DI x.Known.2.1.2.2.2.1,DI x.Known.2.1.2.2.2.2.1,DI x.Known.2.1.2.2.2.2.2,DI x.Known.2.2.1.1,DI x.Known.2.2.1.2.1,DI x.Known.2.2.1.2.2.1,DI x.Known.2.2.1.2.2.2.1,DI x.Known.2.2.1.2.2.2.2.1,DI x.Known.2.2.1.2.2.2.2.2,DI x.Known.2.2.2.1.1,DI x.Known.2.2.2.1.2.1,DI x.Known.2.2.2.1.2.2.1,DI x.Known.2.2.2.1.2.2.2.1,DI x.Known.2.2.2.1.2.2.2.2.1,DI x.Known.2.2.2.1.2.2.2.2.2,DI x.Known.2.2.2.2.1.1,DI x.Known.2.2.2.2.1.2.1,DI x.Known.2.2.2.2.1.2.2.1,DI x.Known.2.2.2.2.1.2.2.2.1,DI x.Known.2.2.2.2.1.2.2.2.2.1,DI x.Known.2.2.2.2.1.2.2.2.2.2,DI x.Known.2.2.2.2.2.1,DI x.Known.2.2.2.2.2.2.1,DI x.Known.2.2.2.2.2.2.2.1,DI x.Known.2.2.2.2.2.2.2.2.1,DI x.Known.2.2.2.2.2.2.2.2.2.1,DI x.Known.2.2.2.2.2.2.2.2.2.2]
structure E5 where
 no:Int
 part:Int
 parts:Int
 deriving DecidableEq,Inhabited
abbrev E5.c(x:E5):List D:=[DI x.no,DI x.part,DI x.parts]
structure a1M where
 Kind:Int
 Depot:Int
 To:Int
 Record:(Int×Int×Int×Int×Int)
 Picks:(List Int)
 deriving DecidableEq,Inhabited
abbrev a1M.c(x:a1M):List D:=[DI x.Kind,DI x.Depot,DI x.To,DI x.Record.1,DI x.Record.2.1,DI x.Record.2.2.1,DI x.Record.2.2.2.1,DI x.Record.2.2.2.2,lD 1 x.Picks cI]
structure B8 where
 Depot:e9
 deriving DecidableEq,Inhabited
abbrev B8.c(x:B8):List D:=[DI x.Depot.Me,lD 5 x.Depot.Box.Thread d8.c,lD 5 x.Depot.Box.Loose d8.c,lD 8 x.Depot.Written b9.c,DI x.Depot.Known.1.1,DI x.Depot.Known.1.2.1,DI x.Depot.Known.1.2.2.1,DI x.Depot.Known.1.2.2.2.1,DI x.Depot.Known.1.2.2.2.2.1,DI x.Depot.Known.1.2.2.2.2.2,DI x.Depot.Known.2.1.1,DI x.Depot.Known.2.1.2.1,DI x.Depot.Known.2.1.2.2.1,DI x.Depot.Known.2.1.2.2.2.1,DI x.Depot.Known.2.1.2.2.2.2.1,DI x.Depot.Known.2.1.2.2.2.2.2,DI x.Depot.Known.2.2.1.1,DI x.Depot.Known.2.2.1.2.1,DI x.Depot.Known.2.2.1.2.2.1,DI x.Depot.Known.2.2.1.2.2.2.1,DI x.Depot.Known.2.2.1.2.2.2.2.1,DI x.Depot.Known.2.2.1.2.2.2.2.2,DI x.Depot.Known.2.2.2.1.1,DI x.Depot.Known.2.2.2.1.2.1,DI x.Depot.Known.2.2.2.1.2.2.1,DI x.Depot.Known.2.2.2.1.2.2.2.1,DI x.Depot.Known.2.2.2.1.2.2.2.2.1,DI x.Depot.Known.2.2.2.1.2.2.2.2.2,DI x.Depot.Known.2.2.2.2.1.1,DI x.Depot.Known.2.2.2.2.1.2.1,DI x.Depot.Known.2.2.2.2.1.2.2.1,DI x.Depot.Known.2.2.2.2.1.2.2.2.1,DI x.Depot.Known.2.2.2.2.1.2.2.2.2.1,DI x.Depot.Known.2.2.2.2.1.2.2.2.2.2,DI x.Depot.Known.2.2.2.2.2.1,DI x.Depot.Known.2.2.2.2.2.2.1,DI x.Depot.Known.2.2.2.2.2.2.2.1,DI x.Depot.Known.2.2.2.2.2.2.2.2.1,DI x.Depot.Known.2.2.2.2.2.2.2.2.2.1,DI x.Depot.Known.2.2.2.2.2.2.2.2.2.2]
structure d2o where
 deriving DecidableEq,Inhabited
abbrev d2o.c(x:d2o):List D:=[]
structure b1L where
 s:ByteArray
 deriving DecidableEq,Inhabited
abbrev b1L.c(x:b1L):List D:=[.v (.string x.s)]
theorem le1{a1 a2:D}{z1:Nat}:leD (.tup [.agg [a1,.v (.slice none 0 0)],a2]) (.tup [.agg [a1,.lst z1 0 []],a2]):=⟨_,rfl,⟨⟨_,rfl,⟨d5t _,d5u,trivial⟩⟩,d5t _,trivial⟩⟩
theorem le2{a1:D}{z1:Nat}:leD (.agg [a1,.v (.slice none 0 0)]) (.agg [a1,.lst z1 0 []]):=⟨_,rfl,⟨d5t _,d5u,trivial⟩⟩
theorem le3{a1:D}{z1:Nat}:leD (.tup [.agg [.v (.slice none 0 0)],a1]) (.tup [.agg [.lst z1 0 []],a1]):=⟨_,rfl,⟨⟨_,rfl,⟨d5u,trivial⟩⟩,d5t _,trivial⟩⟩
theorem le4{a1:D}{z1 z2 z3:Nat}:leD (.tup [.agg [.v (.slice none 0 0),.v (.slice none 0 0)],.v (.slice none 0 0),a1]) (.tup [.agg [.lst z1 0 [],.lst z2 0 []],.lst z3 0 [],a1]):=⟨_,rfl,⟨⟨_,rfl,⟨d5u,d5u,trivial⟩⟩,d5u,d5t _,trivial⟩⟩
theorem le5{a1:D}{z1:Nat}:leD (.tup [.v (.slice none 0 0),a1]) (.tup [.lst z1 0 [],a1]):=⟨_,rfl,⟨d5u,d5t _,trivial⟩⟩
theorem le6{a1 a2 a3 a4 a5 a6 a7 a8 a9 x1 u1 v1 w1 s1 t1 q1 p1 n1 k1 j1 h1 g1 f1 e1 c1 b1 x2 y2 u2 v2 w2 s2 t2 q2 p2 n2 k2 j2:D}{z1 z2 z3:Nat}:leD (.tup [.agg [a1,.v (.slice none 0 0),.v (.slice none 0 0),.v (.slice none 0 0),a2,a3,a4,a5,a6,a7,a8,a9,x1,u1,v1,w1,s1,t1,q1,p1,n1,k1,j1,h1,g1,f1,e1,c1,b1,x2,y2,u2,v2,w2,s2,t2,q2,p2,n2,k2],j2]) (.tup [.agg [a1,.lst z1 0 [],.lst z2 0 [],.lst z3 0 [],a2,a3,a4,a5,a6,a7,a8,a9,x1,u1,v1,w1,s1,t1,q1,p1,n1,k1,j1,h1,g1,f1,e1,c1,b1,x2,y2,u2,v2,w2,s2,t2,q2,p2,n2,k2],j2]):=⟨_,rfl,⟨⟨_,rfl,⟨d5t _,d5u,d5u,d5u,d5t _,d5t _,d5t _,d5t _,d5t _,d5t _,d5t _,d5t _,d5t _,d5t _,d5t _,d5t _,d5t _,d5t _,d5t _,d5t _,d5t _,d5t _,d5t _,d5t _,d5t _,d5t _,d5t _,d5t _,d5t _,d5t _,d5t _,d5t _,d5t _,d5t _,d5t _,d5t _,d5t _,d5t _,d5t _,d5t _,trivial⟩⟩,d5t _,trivial⟩⟩
theorem le7{a1 a2 a3 a4 a5 a6 a7 a8 a9 x1 u1 v1 w1 s1 t1 q1 p1 n1 k1 j1 h1 g1 f1 e1 c1 b1 x2 y2 u2 v2 w2 s2 t2 q2 p2 n2 k2 j2 h2:D}{z1 z2 z3:Nat}:leD (.tup [.agg [a1,.v (.slice none 0 0),.v (.slice none 0 0),.v (.slice none 0 0),a2,a3,a4,a5,a6,a7,a8,a9,x1,u1,v1,w1,s1,t1,q1,p1,n1,k1,j1,h1,g1,f1,e1,c1,b1,x2,y2,u2,v2,w2,s2,t2,q2,p2,n2,k2],j2,h2]) (.tup [.agg [a1,.lst z1 0 [],.lst z2 0 [],.lst z3 0 [],a2,a3,a4,a5,a6,a7,a8,a9,x1,u1,v1,w1,s1,t1,q1,p1,n1,k1,j1,h1,g1,f1,e1,c1,b1,x2,y2,u2,v2,w2,s2,t2,q2,p2,n2,k2],j2,h2]):=⟨_,rfl,⟨⟨_,rfl,⟨d5t _,d5u,d5u,d5u,d5t _,d5t _,d5t _,d5t _,d5t _,d5t _,d5t _,d5t _,d5t _,d5t _,d5t _,d5t _,d5t _,d5t _,d5t _,d5t _,d5t _,d5t _,d5t _,d5t _,d5t _,d5t _,d5t _,d5t _,d5t _,d5t _,d5t _,d5t _,d5t _,d5t _,d5t _,d5t _,d5t _,d5t _,d5t _,d5t _,trivial⟩⟩,d5t _,d5t _,trivial⟩⟩
theorem le8{a1 a2 a3 a4 a5 a6 a7 a8 a9 x1 u1 v1 w1 s1 t1 q1 p1 n1 k1 j1 h1 g1 f1 e1 c1 b1 x2 y2 u2 v2 w2 s2 t2 q2 p2 n2 k2 j2 h2 g2 f2 e2 c2 b2 x3 y3:D}{z1 z2 z3 z4:Nat}:leD (.tup [.agg [a1,.v (.slice none 0 0),.v (.slice none 0 0),.v (.slice none 0 0),a2,a3,a4,a5,a6,a7,a8,a9,x1,u1,v1,w1,s1,t1,q1,p1,n1,k1,j1,h1,g1,f1,e1,c1,b1,x2,y2,u2,v2,w2,s2,t2,q2,p2,n2,k2],.agg [j2,h2,g2,f2,e2,c2,b2,x3,.v (.slice none 0 0)],y3]) (.tup [.agg [a1,.lst z1 0 [],.lst z2 0 [],.lst z3 0 [],a2,a3,a4,a5,a6,a7,a8,a9,x1,u1,v1,w1,s1,t1,q1,p1,n1,k1,j1,h1,g1,f1,e1,c1,b1,x2,y2,u2,v2,w2,s2,t2,q2,p2,n2,k2],.agg [j2,h2,g2,f2,e2,c2,b2,x3,.lst z4 0 []],y3]):=⟨_,rfl,⟨⟨_,rfl,⟨d5t _,d5u,d5u,d5u,d5t _,d5t _,d5t _,d5t _,d5t _,d5t _,d5t _,d5t _,d5t _,d5t _,d5t _,d5t _,d5t _,d5t _,d5t _,d5t _,d5t _,d5t _,d5t _,d5t _,d5t _,d5t _,d5t _,d5t _,d5t _,d5t _,d5t _,d5t _,d5t _,d5t _,d5t _,d5t _,d5t _,d5t _,d5t _,d5t _,trivial⟩⟩,⟨_,rfl,⟨d5t _,d5t _,d5t _,d5t _,d5t _,d5t _,d5t _,d5t _,d5u,trivial⟩⟩,d5t _,trivial⟩⟩
theorem le9{a1 a2 a3 a4 a5 a6 a7 a8 a9 x1:D}{z1:Nat}:leD (.tup [a1,.agg [a2,a3,a4,a5,a6,a7,a8,a9,.v (.slice none 0 0)],x1]) (.tup [a1,.agg [a2,a3,a4,a5,a6,a7,a8,a9,.lst z1 0 []],x1]):=⟨_,rfl,⟨d5t _,⟨_,rfl,⟨d5t _,d5t _,d5t _,d5t _,d5t _,d5t _,d5t _,d5t _,d5u,trivial⟩⟩,d5t _,trivial⟩⟩
theorem c1v{a1 a2 a3 a4 a5 a6 a7 a8 a9 x1 u1 v1 w1 s1 t1 q1 p1 n1 k1 j1 h1 g1 f1 e1 c1 b1 x2 y2 u2 v2 w2 s2 t2 q2 p2 n2 k2 j2:D}{z1 z2 z3 z4:Nat}:leD (.tup [.agg [a1,.v (.slice none 0 0),.v (.slice none 0 0),.v (.slice none 0 0),a2,a3,a4,a5,a6,a7,a8,a9,x1,u1,v1,w1,s1,t1,q1,p1,n1,k1,j1,h1,g1,f1,e1,c1,b1,x2,y2,u2,v2,w2,s2,t2,q2,p2,n2,k2],.v (.slice none 0 0),j2]) (.tup [.agg [a1,.lst z1 0 [],.lst z2 0 [],.lst z3 0 [],a2,a3,a4,a5,a6,a7,a8,a9,x1,u1,v1,w1,s1,t1,q1,p1,n1,k1,j1,h1,g1,f1,e1,c1,b1,x2,y2,u2,v2,w2,s2,t2,q2,p2,n2,k2],.lst z4 0 [],j2]):=⟨_,rfl,⟨⟨_,rfl,⟨d5t _,d5u,d5u,d5u,d5t _,d5t _,d5t _,d5t _,d5t _,d5t _,d5t _,d5t _,d5t _,d5t _,d5t _,d5t _,d5t _,d5t _,d5t _,d5t _,d5t _,d5t _,d5t _,d5t _,d5t _,d5t _,d5t _,d5t _,d5t _,d5t _,d5t _,d5t _,d5t _,d5t _,d5t _,d5t _,d5t _,d5t _,d5t _,d5t _,trivial⟩⟩,d5u,d5t _,trivial⟩⟩
theorem d1P{a1 a2:D}{z1:Nat}:leD (.tup [a1,.v (.slice none 0 0),a2]) (.tup [a1,.lst z1 0 [],a2]):=⟨_,rfl,⟨d5t _,d5u,d5t _,trivial⟩⟩
theorem d4A{a1 a2 a3 a4 a5 a6 a7 a8:D}{z1:Nat}:leD (.agg [a1,a2,a3,a4,a5,a6,a7,a8,.v (.slice none 0 0)]) (.agg [a1,a2,a3,a4,a5,a6,a7,a8,.lst z1 0 []]):=⟨_,rfl,⟨d5t _,d5t _,d5t _,d5t _,d5t _,d5t _,d5t _,d5t _,d5u,trivial⟩⟩
abbrev cf1:(Int×Int×Int×Int×Int×Int)→List D:=fun(x:(Int×Int×Int×Int×Int×Int))=>[DI x.1,DI x.2.1,DI x.2.2.1,DI x.2.2.2.1,DI x.2.2.2.2.1,DI x.2.2.2.2.2]
abbrev cf2:(List d8)→List D:=fun(x:(List d8))=>[lD 5 x d8.c]
theorem zy{f:FuncId}{fn:Func}{c:Code}{args:List D}{Q:D→Prop}(pl:List (Nat×PT))(ln un inl:List Nat)(hf:Tryz.prog.funcs[f]?=some fn)(hb:fn.body=some c)(h:O1 ⟨Tryz.prog,tt,fn.ntmps,pl,ln,un,[],inl,[]⟩ c ⟨a1Y 0 args,[],0⟩ (c3z ⟨Tryz.prog,tt,fn.ntmps,pl,ln,un,[],inl,[]⟩ fn.results.toList Q))(hl:args.length≤fn.ntmps:=by exact J6 rfl)(hg:fn.ntmps≤L3:=by exact J6 rfl):p0 Tryz.prog f args Q:=
 c9C (X:=⟨Tryz.prog,tt,fn.ntmps,pl,ln,un,[],inl,[]⟩) pok args hf hb rfl hl h rfl hg
theorem zn{f:FuncId}{fn:Func}{c:Code}{args:List D}{Q:D→Prop}(hf:Tryz.prog.funcs[f]?=some fn)(hb:fn.body=some c)(h:O1 ⟨Tryz.prog,tt,fn.ntmps,[],[],[],[],[],[]⟩ c ⟨a1Y 0 args,[],0⟩ (c3z ⟨Tryz.prog,tt,fn.ntmps,[],[],[],[],[],[]⟩ fn.results.toList Q))(hl:args.length≤fn.ntmps:=by exact J6 rfl)(hg:fn.ntmps≤L3:=by exact J6 rfl):p0 Tryz.prog f args Q:=zy [] [] [] [] hf hb h hl hg
abbrev nS:D:=.v (.slice none 0 0)
abbrev zC:List D:=[DI 0,nS,nS,nS,DI 0,DI 0,DI 0,DI 0,DI 0,DI 0,DI 0,DI 0,DI 0,DI 0,DI 0,DI 0,DI 0,DI 0,DI 0,DI 0,DI 0,DI 0,DI 0,DI 0,DI 0,DI 0,DI 0,DI 0,DI 0,DI 0,DI 0,DI 0,DI 0,DI 0,DI 0,DI 0,DI 0,DI 0,DI 0,DI 0]
abbrev zD0:e9:=⟨0,⟨[],[]⟩,[],((0,0,0,0,0,0),(0,0,0,0,0,0),(0,0,0,0,0,0),(0,0,0,0,0,0),(0,0,0,0,0,0),(0,0,0,0,0,0))⟩
end Go.Proofs.YtggdlgclohnbaaaGreatDoor
