/- Structs of the program, as Lean structures. -/
import Derived.Test.YtggdlgclohnbaaaGreatDoorC1
set_option linter.unusedVariables false
set_option linter.unusedSimpArgs false
namespace Go.Proofs.YtggdlgclohnbaaaGreatDoor
open Go Go.RowKit Go.Sx
set_option maxRecDepth 100000
set_option maxHeartbeats 20000000
abbrev W (z:Int):Int:=IntKind.i64.wrap z
instance eqA6:DecidableEq (Int×Int×Int×Int×Int×Int):=inferInstance
instance inA6:Inhabited (Int×Int×Int×Int×Int×Int):=inferInstance
structure a9s where
 x:Int
 y:Int
 signed:Bool
 code:Int
 deriving DecidableEq,Inhabited
abbrev a9s.c (x:a9s):List D:= [DI x.x,DI x.y,DB x.signed, .v (.int .u8 x.code)]
structure a3r where
 msg:ByteArray
 addr:Int
 deriving DecidableEq,Inhabited
abbrev a3r.c (x:a3r):List D:= [.v (.string x.msg), .v (.int .u64 x.addr)]
structure e8 where
 No:Int
 Part:Int
 Parts:Int
 Size:Int
 Text:ByteArray
 deriving DecidableEq,Inhabited
abbrev e8.c (x:e8):List D:= [DI x.No,DI x.Part,DI x.Parts,DI x.Size, .v (.string x.Text)]
structure o4 where
 Thread:(List e8)
 Loose:(List e8)
 deriving DecidableEq,Inhabited
abbrev o4.c (x:o4):List D:= [lD 5 x.Thread e8.c,lD 5 x.Loose e8.c]
structure p0 where
 Depot:Int
 No:Int
 deriving DecidableEq,Inhabited
abbrev p0.c (x:p0):List D:= [DI x.Depot,DI x.No]
structure b9 where
 At:p0
 Kind:Int
 Day:Int
 Known:Int
 Of:p0
 Text:ByteArray
 deriving DecidableEq,Inhabited
abbrev b9.c (x:b9):List D:= [DI x.At.Depot,DI x.At.No,DI x.Kind,DI x.Day,DI x.Known,DI x.Of.Depot,DI x.Of.No, .v (.string x.Text)]
structure c8J where
 Kind:Int
 Record:(Int×Int×Int×Int×Int)
 Picks:(List Int)
 deriving DecidableEq,Inhabited
abbrev c8J.c (x:c8J):List D:= [DI x.Kind,DI x.Record.1,DI x.Record.2.1,DI x.Record.2.2.1,DI x.Record.2.2.2.1,DI x.Record.2.2.2.2,lD 1 x.Picks cI]
structure c6R where
 Record:b9
 Text:ByteArray
 No:Int
 Card:e8
 deriving DecidableEq,Inhabited
abbrev c6R.c (x:c6R):List D:= [DI x.Record.At.Depot,DI x.Record.At.No,DI x.Record.Kind,DI x.Record.Day,DI x.Record.Known,DI x.Record.Of.Depot,DI x.Record.Of.No, .v (.string x.Record.Text), .v (.string x.Text),DI x.No,DI x.Card.No,DI x.Card.Part,DI x.Card.Parts,DI x.Card.Size, .v (.string x.Card.Text)]
structure y0 where
 Records:(List b9)
 deriving DecidableEq,Inhabited
abbrev y0.c (x:y0):List D:= [lD 8 x.Records b9.c]
structure d8 where
 From:Int
 To:Int
 Have:(Int×Int×Int×Int×Int×Int)
 Records:(List b9)
 deriving DecidableEq,Inhabited
abbrev d8.c (x:d8):List D:= [DI x.From,DI x.To,DI x.Have.1,DI x.Have.2.1,DI x.Have.2.2.1,DI x.Have.2.2.2.1,DI x.Have.2.2.2.2.1,DI x.Have.2.2.2.2.2,lD 8 x.Records b9.c]
structure c8N where
 Depot:Int
 To:Int
 Record:b9
 Message:d8
 Picks:(List Int)
 Which:Int
 By:Int
 deriving DecidableEq,Inhabited
abbrev c8N.c (x:c8N):List D:= [DI x.Depot,DI x.To,DI x.Record.At.Depot,DI x.Record.At.No,DI x.Record.Kind,DI x.Record.Day,DI x.Record.Known,DI x.Record.Of.Depot,DI x.Record.Of.No, .v (.string x.Record.Text),DI x.Message.From,DI x.Message.To,DI x.Message.Have.1,DI x.Message.Have.2.1,DI x.Message.Have.2.2.1,DI x.Message.Have.2.2.2.1,DI x.Message.Have.2.2.2.2.1,DI x.Message.Have.2.2.2.2.2,lD 8 x.Message.Records b9.c,lD 1 x.Picks cI,DI x.Which,DI x.By]
structure c8 where
 Me:Int
 Box:o4
 Written:(List b9)
 Known:((Int×Int×Int×Int×Int×Int)×(Int×Int×Int×Int×Int×Int)×(Int×Int×Int×Int×Int×Int)×(Int×Int×Int×Int×Int×Int)×(Int×Int×Int×Int×Int×Int)×(Int×Int×Int×Int×Int×Int))
 deriving DecidableEq,Inhabited
abbrev c8.c (x:c8):List D:= [DI x.Me,lD 5 x.Box.Thread e8.c,lD 5 x.Box.Loose e8.c,lD 8 x.Written b9.c,DI x.Known.1.1,DI x.Known.1.2.1,DI x.Known.1.2.2.1,DI x.Known.1.2.2.2.1,DI x.Known.1.2.2.2.2.1,DI x.Known.1.2.2.2.2.2,DI x.Known.2.1.1,DI x.Known.2.1.2.1,DI x.Known.2.1.2.2.1,DI x.Known.2.1.2.2.2.1,DI x.Known.2.1.2.2.2.2.1,DI x.Known.2.1.2.2.2.2.2,DI x.Known.2.2.1.1,DI x.Known.2.2.1.2.1,DI x.Known.2.2.1.2.2.1,DI x.Known.2.2.1.2.2.2.1,DI x.Known.2.2.1.2.2.2.2.1,DI x.Known.2.2.1.2.2.2.2.2,DI x.Known.2.2.2.1.1,DI x.Known.2.2.2.1.2.1,DI x.Known.2.2.2.1.2.2.1,DI x.Known.2.2.2.1.2.2.2.1,DI x.Known.2.2.2.1.2.2.2.2.1,DI x.Known.2.2.2.1.2.2.2.2.2,DI x.Known.2.2.2.2.1.1,DI x.Known.2.2.2.2.1.2.1,DI x.Known.2.2.2.2.1.2.2.1,DI x.Known.2.2.2.2.1.2.2.2.1,DI x.Known.2.2.2.2.1.2.2.2.2.1,DI x.Known.2.2.2.2.1.2.2.2.2.2,DI x.Known.2.2.2.2.2.1,DI x.Known.2.2.2.2.2.2.1,DI x.Known.2.2.2.2.2.2.2.1,DI x.Known.2.2.2.2.2.2.2.2.1,DI x.Known.2.2.2.2.2.2.2.2.2.1,DI x.Known.2.2.2.2.2.2.2.2.2.2]
structure C9 where
 no:Int
 part:Int
 parts:Int
 deriving DecidableEq,Inhabited
abbrev C9.c (x:C9):List D:= [DI x.no,DI x.part,DI x.parts]
structure a1c where
 Kind:Int
 Depot:Int
 To:Int
 Record:(Int×Int×Int×Int×Int)
 Picks:(List Int)
 deriving DecidableEq,Inhabited
abbrev a1c.c (x:a1c):List D:= [DI x.Kind,DI x.Depot,DI x.To,DI x.Record.1,DI x.Record.2.1,DI x.Record.2.2.1,DI x.Record.2.2.2.1,DI x.Record.2.2.2.2,lD 1 x.Picks cI]
structure A3 where
 Depot:c8
 deriving DecidableEq,Inhabited
abbrev A3.c (x:A3):List D:= [DI x.Depot.Me,lD 5 x.Depot.Box.Thread e8.c,lD 5 x.Depot.Box.Loose e8.c,lD 8 x.Depot.Written b9.c,DI x.Depot.Known.1.1,DI x.Depot.Known.1.2.1,DI x.Depot.Known.1.2.2.1,DI x.Depot.Known.1.2.2.2.1,DI x.Depot.Known.1.2.2.2.2.1,DI x.Depot.Known.1.2.2.2.2.2,DI x.Depot.Known.2.1.1,DI x.Depot.Known.2.1.2.1,DI x.Depot.Known.2.1.2.2.1,DI x.Depot.Known.2.1.2.2.2.1,DI x.Depot.Known.2.1.2.2.2.2.1,DI x.Depot.Known.2.1.2.2.2.2.2,DI x.Depot.Known.2.2.1.1,DI x.Depot.Known.2.2.1.2.1,DI x.Depot.Known.2.2.1.2.2.1,DI x.Depot.Known.2.2.1.2.2.2.1,DI x.Depot.Known.2.2.1.2.2.2.2.1,DI x.Depot.Known.2.2.1.2.2.2.2.2,DI x.Depot.Known.2.2.2.1.1,DI x.Depot.Known.2.2.2.1.2.1,DI x.Depot.Known.2.2.2.1.2.2.1,DI x.Depot.Known.2.2.2.1.2.2.2.1,DI x.Depot.Known.2.2.2.1.2.2.2.2.1,DI x.Depot.Known.2.2.2.1.2.2.2.2.2,DI x.Depot.Known.2.2.2.2.1.1,DI x.Depot.Known.2.2.2.2.1.2.1,DI x.Depot.Known.2.2.2.2.1.2.2.1,DI x.Depot.Known.2.2.2.2.1.2.2.2.1,DI x.Depot.Known.2.2.2.2.1.2.2.2.2.1,DI x.Depot.Known.2.2.2.2.1.2.2.2.2.2,DI x.Depot.Known.2.2.2.2.2.1,DI x.Depot.Known.2.2.2.2.2.2.1,DI x.Depot.Known.2.2.2.2.2.2.2.1,DI x.Depot.Known.2.2.2.2.2.2.2.2.1,DI x.Depot.Known.2.2.2.2.2.2.2.2.2.1,DI x.Depot.Known.2.2.2.2.2.2.2.2.2.2]
structure d1Q where
 deriving DecidableEq,Inhabited
abbrev d1Q.c (x:d1Q):List D:= []
structure a9B where
 s:ByteArray
 deriving DecidableEq,Inhabited
abbrev a9B.c (x:a9B):List D:= [.v (.string x.s)]
theorem le1 {a1 a2:D} {z1:Nat}:leD (.tup [.agg [a1, .v (.slice none 0 0)],a2]) (.tup [.agg [a1, .lst z1 0 []],a2]):=⟨_,rfl,⟨⟨_,rfl,⟨d2Q _,d2R,trivial⟩⟩,d2Q _,trivial⟩⟩
theorem le2 {a1:D} {z1:Nat}:leD (.agg [a1, .v (.slice none 0 0)]) (.agg [a1, .lst z1 0 []]):=⟨_,rfl,⟨d2Q _,d2R,trivial⟩⟩
theorem le3 {a1:D} {z1:Nat}:leD (.tup [.agg [.v (.slice none 0 0)],a1]) (.tup [.agg [.lst z1 0 []],a1]):=⟨_,rfl,⟨⟨_,rfl,⟨d2R,trivial⟩⟩,d2Q _,trivial⟩⟩
theorem le4 {a1:D} {z1 z2 z3:Nat}:leD (.tup [.agg [.v (.slice none 0 0), .v (.slice none 0 0)], .v (.slice none 0 0),a1]) (.tup [.agg [.lst z1 0 [], .lst z2 0 []], .lst z3 0 [],a1]):=⟨_,rfl,⟨⟨_,rfl,⟨d2R,d2R,trivial⟩⟩,d2R,d2Q _,trivial⟩⟩
theorem le5 {a1:D} {z1:Nat}:leD (.tup [.v (.slice none 0 0),a1]) (.tup [.lst z1 0 [],a1]):=⟨_,rfl,⟨d2R,d2Q _,trivial⟩⟩
theorem le6 {a1 a2 a3 a4 a5 a6 a7 a8 a9 a10 a11 a12 a13 a14 a15 a16 a17 a18 a19 a20 a21 a22 a23 a24 a25 a26 a27 a28 a29 a30 a31 a32 a33 a34 a35 a36 a37 a38:D} {z1 z2 z3:Nat}:leD (.tup [.agg [a1, .v (.slice none 0 0), .v (.slice none 0 0), .v (.slice none 0 0),a2,a3,a4,a5,a6,a7,a8,a9,a10,a11,a12,a13,a14,a15,a16,a17,a18,a19,a20,a21,a22,a23,a24,a25,a26,a27,a28,a29,a30,a31,a32,a33,a34,a35,a36,a37],a38]) (.tup [.agg [a1, .lst z1 0 [], .lst z2 0 [], .lst z3 0 [],a2,a3,a4,a5,a6,a7,a8,a9,a10,a11,a12,a13,a14,a15,a16,a17,a18,a19,a20,a21,a22,a23,a24,a25,a26,a27,a28,a29,a30,a31,a32,a33,a34,a35,a36,a37],a38]):=⟨_,rfl,⟨⟨_,rfl,⟨d2Q _,d2R,d2R,d2R,d2Q _,d2Q _,d2Q _,d2Q _,d2Q _,d2Q _,d2Q _,d2Q _,d2Q _,d2Q _,d2Q _,d2Q _,d2Q _,d2Q _,d2Q _,d2Q _,d2Q _,d2Q _,d2Q _,d2Q _,d2Q _,d2Q _,d2Q _,d2Q _,d2Q _,d2Q _,d2Q _,d2Q _,d2Q _,d2Q _,d2Q _,d2Q _,d2Q _,d2Q _,d2Q _,d2Q _,trivial⟩⟩,d2Q _,trivial⟩⟩
theorem le7 {a1 a2 a3 a4 a5 a6 a7 a8 a9 a10 a11 a12 a13 a14 a15 a16 a17 a18 a19 a20 a21 a22 a23 a24 a25 a26 a27 a28 a29 a30 a31 a32 a33 a34 a35 a36 a37 a38 a39:D} {z1 z2 z3:Nat}:leD (.tup [.agg [a1, .v (.slice none 0 0), .v (.slice none 0 0), .v (.slice none 0 0),a2,a3,a4,a5,a6,a7,a8,a9,a10,a11,a12,a13,a14,a15,a16,a17,a18,a19,a20,a21,a22,a23,a24,a25,a26,a27,a28,a29,a30,a31,a32,a33,a34,a35,a36,a37],a38,a39]) (.tup [.agg [a1, .lst z1 0 [], .lst z2 0 [], .lst z3 0 [],a2,a3,a4,a5,a6,a7,a8,a9,a10,a11,a12,a13,a14,a15,a16,a17,a18,a19,a20,a21,a22,a23,a24,a25,a26,a27,a28,a29,a30,a31,a32,a33,a34,a35,a36,a37],a38,a39]):=⟨_,rfl,⟨⟨_,rfl,⟨d2Q _,d2R,d2R,d2R,d2Q _,d2Q _,d2Q _,d2Q _,d2Q _,d2Q _,d2Q _,d2Q _,d2Q _,d2Q _,d2Q _,d2Q _,d2Q _,d2Q _,d2Q _,d2Q _,d2Q _,d2Q _,d2Q _,d2Q _,d2Q _,d2Q _,d2Q _,d2Q _,d2Q _,d2Q _,d2Q _,d2Q _,d2Q _,d2Q _,d2Q _,d2Q _,d2Q _,d2Q _,d2Q _,d2Q _,trivial⟩⟩,d2Q _,d2Q _,trivial⟩⟩
theorem le8 {a1 a2 a3 a4 a5 a6 a7 a8 a9 a10 a11 a12 a13 a14 a15 a16 a17 a18 a19 a20 a21 a22 a23 a24 a25 a26 a27 a28 a29 a30 a31 a32 a33 a34 a35 a36 a37 a38 a39 a40 a41 a42 a43 a44 a45 a46:D} {z1 z2 z3 z4:Nat}:leD (.tup [.agg [a1, .v (.slice none 0 0), .v (.slice none 0 0), .v (.slice none 0 0),a2,a3,a4,a5,a6,a7,a8,a9,a10,a11,a12,a13,a14,a15,a16,a17,a18,a19,a20,a21,a22,a23,a24,a25,a26,a27,a28,a29,a30,a31,a32,a33,a34,a35,a36,a37], .agg [a38,a39,a40,a41,a42,a43,a44,a45, .v (.slice none 0 0)],a46]) (.tup [.agg [a1, .lst z1 0 [], .lst z2 0 [], .lst z3 0 [],a2,a3,a4,a5,a6,a7,a8,a9,a10,a11,a12,a13,a14,a15,a16,a17,a18,a19,a20,a21,a22,a23,a24,a25,a26,a27,a28,a29,a30,a31,a32,a33,a34,a35,a36,a37], .agg [a38,a39,a40,a41,a42,a43,a44,a45, .lst z4 0 []],a46]):=⟨_,rfl,⟨⟨_,rfl,⟨d2Q _,d2R,d2R,d2R,d2Q _,d2Q _,d2Q _,d2Q _,d2Q _,d2Q _,d2Q _,d2Q _,d2Q _,d2Q _,d2Q _,d2Q _,d2Q _,d2Q _,d2Q _,d2Q _,d2Q _,d2Q _,d2Q _,d2Q _,d2Q _,d2Q _,d2Q _,d2Q _,d2Q _,d2Q _,d2Q _,d2Q _,d2Q _,d2Q _,d2Q _,d2Q _,d2Q _,d2Q _,d2Q _,d2Q _,trivial⟩⟩,⟨_,rfl,⟨d2Q _,d2Q _,d2Q _,d2Q _,d2Q _,d2Q _,d2Q _,d2Q _,d2R,trivial⟩⟩,d2Q _,trivial⟩⟩
theorem c7j {a1 a2 a3 a4 a5 a6 a7 a8 a9 a10 a11 a12 a13 a14 a15 a16 a17 a18 a19 a20 a21 a22 a23 a24 a25 a26 a27 a28 a29 a30 a31 a32 a33 a34 a35 a36 a37 a38:D} {z1 z2 z3 z4:Nat}:leD (.tup [.agg [a1, .v (.slice none 0 0), .v (.slice none 0 0), .v (.slice none 0 0),a2,a3,a4,a5,a6,a7,a8,a9,a10,a11,a12,a13,a14,a15,a16,a17,a18,a19,a20,a21,a22,a23,a24,a25,a26,a27,a28,a29,a30,a31,a32,a33,a34,a35,a36,a37], .v (.slice none 0 0),a38]) (.tup [.agg [a1, .lst z1 0 [], .lst z2 0 [], .lst z3 0 [],a2,a3,a4,a5,a6,a7,a8,a9,a10,a11,a12,a13,a14,a15,a16,a17,a18,a19,a20,a21,a22,a23,a24,a25,a26,a27,a28,a29,a30,a31,a32,a33,a34,a35,a36,a37], .lst z4 0 [],a38]):=⟨_,rfl,⟨⟨_,rfl,⟨d2Q _,d2R,d2R,d2R,d2Q _,d2Q _,d2Q _,d2Q _,d2Q _,d2Q _,d2Q _,d2Q _,d2Q _,d2Q _,d2Q _,d2Q _,d2Q _,d2Q _,d2Q _,d2Q _,d2Q _,d2Q _,d2Q _,d2Q _,d2Q _,d2Q _,d2Q _,d2Q _,d2Q _,d2Q _,d2Q _,d2Q _,d2Q _,d2Q _,d2Q _,d2Q _,d2Q _,d2Q _,d2Q _,d2Q _,trivial⟩⟩,d2R,d2Q _,trivial⟩⟩
theorem d2B {a1 a2:D} {z1:Nat}:leD (.tup [a1, .v (.slice none 0 0),a2]) (.tup [a1, .lst z1 0 [],a2]):=⟨_,rfl,⟨d2Q _,d2R,d2Q _,trivial⟩⟩
theorem d2e {a1 a2 a3 a4 a5 a6 a7 a8:D} {z1:Nat}:leD (.agg [a1,a2,a3,a4,a5,a6,a7,a8, .v (.slice none 0 0)]) (.agg [a1,a2,a3,a4,a5,a6,a7,a8, .lst z1 0 []]):=⟨_,rfl,⟨d2Q _,d2Q _,d2Q _,d2Q _,d2Q _,d2Q _,d2Q _,d2Q _,d2R,trivial⟩⟩
abbrev cf1:(Int×Int×Int×Int×Int×Int)→List D:=fun(x:(Int×Int×Int×Int×Int×Int))=> [DI x.1,DI x.2.1,DI x.2.2.1,DI x.2.2.2.1,DI x.2.2.2.2.1,DI x.2.2.2.2.2]
abbrev cf2:(List e8)→List D:=fun(x:(List e8))=> [lD 5 x e8.c]
theorem zy {f:FuncId} {fn:Func} {c:Code} {args:List D} {Q:D→Prop} (pl:List (Nat×PT)) (ln un inl:List Nat) (hf:Tryz.prog.funcs[f]?=some fn) (hb:fn.body=some c) (h:L4 ⟨Tryz.prog,tt,fn.ntmps,pl,ln,un, [],inl, []⟩ c ⟨a1E 0 args, [],0⟩ (c3w ⟨Tryz.prog,tt,fn.ntmps,pl,ln,un, [],inl, []⟩ fn.results.toList Q)) (hl:args.length≤fn.ntmps:=by exact J1 rfl) (hg:fn.ntmps≤J3:=by exact J1 rfl):s9 Tryz.prog f args Q:=
 c8m (X:=⟨Tryz.prog,tt,fn.ntmps,pl,ln,un, [],inl, []⟩) pok args hf hb rfl hl h rfl hg
theorem zn {f:FuncId} {fn:Func} {c:Code} {args:List D} {Q:D→Prop} (hf:Tryz.prog.funcs[f]?=some fn) (hb:fn.body=some c) (h:L4 ⟨Tryz.prog,tt,fn.ntmps, [], [], [], [], [], []⟩ c ⟨a1E 0 args, [],0⟩ (c3w ⟨Tryz.prog,tt,fn.ntmps, [], [], [], [], [], []⟩ fn.results.toList Q)) (hl:args.length≤fn.ntmps:=by exact J1 rfl) (hg:fn.ntmps≤J3:=by exact J1 rfl):s9 Tryz.prog f args Q:=zy [] [] [] [] hf hb h hl hg
abbrev nS:D:= .v (.slice none 0 0)
end Go.Proofs.YtggdlgclohnbaaaGreatDoor
