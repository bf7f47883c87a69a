/- Structs of the program, as Lean structures. -/
import Derived.Test.YtejkiefdjcfapaaGreatDoorC1
set_option linter.unusedVariables false
set_option linter.unusedSimpArgs false
namespace Go.Proofs.YtejkiefdjcfapaaGreatDoor
open Go Go.RowKit Go.Sx
set_option maxRecDepth 100000
set_option maxHeartbeats 20000000
abbrev W (z:Int):Int:=IntKind.i64.wrap z
structure TboundsError where
 x:Int
 y:Int
 signed:Bool
 code:Int
 deriving DecidableEq,Inhabited
abbrev TboundsError.c (x:TboundsError):List D:= [DI x.x,DI x.y,DB x.signed, .v (.int .u8 x.code)]
structure TerrorAddressString where
 msg:ByteArray
 addr:Int
 deriving DecidableEq,Inhabited
abbrev TerrorAddressString.c (x:TerrorAddressString):List D:= [.v (.string x.msg), .v (.int .u64 x.addr)]
structure TRange where
 Lo:Int
 Hi:Int
 deriving DecidableEq,Inhabited
abbrev TRange.c (x:TRange):List D:= [DI x.Lo,DI x.Hi]
structure TVersion where
 Source:Int
 Class:Int
 From:Int
 On:TRange
 Off:TRange
 Moon:Int
 Fog:Int
 Known:Int
 Until:Int
 deriving DecidableEq,Inhabited
abbrev TVersion.c (x:TVersion):List D:= [DI x.Source,DI x.Class,DI x.From,DI x.On.Lo,DI x.On.Hi,DI x.Off.Lo,DI x.Off.Hi,DI x.Moon,DI x.Fog,DI x.Known,DI x.Until]
structure TStreet where
 Id:Int
 Class:Int
 District:Int
 First:Int
 Many:Int
 deriving DecidableEq,Inhabited
abbrev TStreet.c (x:TStreet):List D:= [DI x.Id,DI x.Class,DI x.District,DI x.First,DI x.Many]
structure TBylaw where
 Versions:(List TVersion)
 Streets:(List TStreet)
 deriving DecidableEq,Inhabited
abbrev TBylaw.c (x:TBylaw):List D:= [lD 11 x.Versions TVersion.c,lD 5 x.Streets TStreet.c]
structure TNight where
 No:Int
 Set:TRange
 Rise:TRange
 Light:TRange
 Fog:Int
 deriving DecidableEq,Inhabited
abbrev TNight.c (x:TNight):List D:= [DI x.No,DI x.Set.Lo,DI x.Set.Hi,DI x.Rise.Lo,DI x.Rise.Hi,DI x.Light.Lo,DI x.Light.Hi,DI x.Fog]
structure TTimes where
 On:Int
 Off:Int
 deriving DecidableEq,Inhabited
abbrev TTimes.c (x:TTimes):List D:= [DI x.On,DI x.Off]
structure Tbad where
 at_:Int
 deriving DecidableEq,Inhabited
abbrev Tbad.c (x:Tbad):List D:= [DI x.at_]
structure Twindow where
 v:TVersion
 n:TNight
 deriving DecidableEq,Inhabited
abbrev Twindow.c (x:Twindow):List D:= [DI x.v.Source,DI x.v.Class,DI x.v.From,DI x.v.On.Lo,DI x.v.On.Hi,DI x.v.Off.Lo,DI x.v.Off.Hi,DI x.v.Moon,DI x.v.Fog,DI x.v.Known,DI x.v.Until,DI x.n.No,DI x.n.Set.Lo,DI x.n.Set.Hi,DI x.n.Rise.Lo,DI x.n.Rise.Hi,DI x.n.Light.Lo,DI x.n.Light.Hi,DI x.n.Fog]
structure TDuty where
 Lit:Int
 On:TRange
 Off:TRange
 deriving DecidableEq,Inhabited
abbrev TDuty.c (x:TDuty):List D:= [DI x.Lit,DI x.On.Lo,DI x.On.Hi,DI x.Off.Lo,DI x.Off.Hi]
structure TTruth where
 Set:Int
 Rise:Int
 Light:Int
 Fog:Bool
 deriving DecidableEq,Inhabited
abbrev TTruth.c (x:TTruth):List D:= [DI x.Set,DI x.Rise,DI x.Light,DB x.Fog]
structure Ttold where
 d:TDuty
 e:Int
 deriving DecidableEq,Inhabited
abbrev Ttold.c (x:Ttold):List D:= [DI x.d.Lit,DI x.d.On.Lo,DI x.d.On.Hi,DI x.d.Off.Lo,DI x.d.Off.Hi,DI x.e]
structure TacceptRange where
 lo:Int
 hi:Int
 deriving DecidableEq,Inhabited
abbrev TacceptRange.c (x:TacceptRange):List D:= [.v (.int .u8 x.lo), .v (.int .u8 x.hi)]
structure TerrorString where
 s:ByteArray
 deriving DecidableEq,Inhabited
abbrev TerrorString.c (x:TerrorString):List D:= [.v (.string x.s)]
theorem le1 {a1 a2:D} {z1 z2:Nat}:leD (.tup [.agg [.v (.slice none 0 0), .v (.slice none 0 0)],a1,a2]) (.tup [.agg [.lst z1 0 [], .lst z2 0 []],a1,a2]):=⟨_,rfl,⟨⟨_,rfl,⟨leD.nil,leD.nil,trivial⟩⟩,leD.refl _,leD.refl _,trivial⟩⟩
theorem le2 {a1:D} {z1:Nat}:leD (.tup [.v (.slice none 0 0),a1]) (.tup [.lst z1 0 [],a1]):=⟨_,rfl,⟨leD.nil,leD.refl _,trivial⟩⟩
end Go.Proofs.YtejkiefdjcfapaaGreatDoor
