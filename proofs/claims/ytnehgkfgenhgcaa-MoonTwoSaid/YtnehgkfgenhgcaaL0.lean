/- Structs of the program, as Lean structures. -/
import Derived.Test.YtnehgkfgenhgcaaC1
set_option linter.unusedVariables false
set_option linter.unusedSimpArgs false
namespace Go.Proofs.Ytnehgkfgenhgcaa
open Go Go.RowKit Go.Sx
set_option maxRecDepth 100000
set_option maxHeartbeats 20000000
abbrev W (z:Int):Int:=IntKind.i64.wrap z
structure TboundsError where
 x:Int
 y:Int
 signed:Bool
 code:Int
 deriving DecidableEq,Inhabited
abbrev TboundsError.c (x:TboundsError):List D:= [DI x.x,DI x.y,DB x.signed, .v (.int .u8 x.code)]
structure TerrorAddressString where
 msg:ByteArray
 addr:Int
 deriving DecidableEq,Inhabited
abbrev TerrorAddressString.c (x:TerrorAddressString):List D:= [.v (.string x.msg), .v (.int .u64 x.addr)]
structure TRaw where
 Rows:(List (List (Int×Int×Int×Int)))
 Sheets:(List (Int×Int×Int×Int))
 Roofs:(List (Int×Int×Int))
 Sightings:(List (Int×Int×Int×Int))
 Off:Int
 deriving DecidableEq,Inhabited
abbrev TRaw.c (x:TRaw):List D:= [lD 1 x.Rows (fun(x:(List (Int×Int×Int×Int)))=> [lD 4 x (fun(x:(Int×Int×Int×Int))=> [DI x.1,DI x.2.1,DI x.2.2.1,DI x.2.2.2])]),lD 4 x.Sheets (fun(x:(Int×Int×Int×Int))=> [DI x.1,DI x.2.1,DI x.2.2.1,DI x.2.2.2]),lD 3 x.Roofs (fun(x:(Int×Int×Int))=> [DI x.1,DI x.2.1,DI x.2.2]),lD 4 x.Sightings (fun(x:(Int×Int×Int×Int))=> [DI x.1,DI x.2.1,DI x.2.2.1,DI x.2.2.2]),DI x.Off]
structure TFrac where
 Num:Int
 Den:Int
 deriving DecidableEq,Inhabited
abbrev TFrac.c (x:TFrac):List D:= [DI x.Num,DI x.Den]
structure TRow where
 Minute:Int
 Height:TFrac
 Bearing:TFrac
 deriving DecidableEq,Inhabited
abbrev TRow.c (x:TRow):List D:= [DI x.Minute,DI x.Height.Num,DI x.Height.Den,DI x.Bearing.Num,DI x.Bearing.Den]
structure TRange where
 Lo:Int
 Hi:Int
 deriving DecidableEq,Inhabited
abbrev TRange.c (x:TRange):List D:= [DI x.Lo,DI x.Hi]
structure TSheet where
 Source:Int
 Night:Int
 Known:Int
 Until:Int
 Rows:(List TRow)
 Off:TFrac
 Light:TRange
 deriving DecidableEq,Inhabited
abbrev TSheet.c (x:TSheet):List D:= [DI x.Source,DI x.Night,DI x.Known,DI x.Until,lD 5 x.Rows TRow.c,DI x.Off.Num,DI x.Off.Den,DI x.Light.Lo,DI x.Light.Hi]
structure TRoof where
 From:Int
 To:Int
 Top:Int
 deriving DecidableEq,Inhabited
abbrev TRoof.c (x:TRoof):List D:= [DI x.From,DI x.To,DI x.Top]
structure TSighting where
 Source:Int
 Night:Int
 Minute:Int
 Above:Bool
 Known:Int
 Until:Int
 deriving DecidableEq,Inhabited
abbrev TSighting.c (x:TSighting):List D:= [DI x.Source,DI x.Night,DI x.Minute,DB x.Above,DI x.Known,DI x.Until]
structure TSky where
 Sheets:(List TSheet)
 Roofs:(List TRoof)
 Sightings:(List TSighting)
 deriving DecidableEq,Inhabited
abbrev TSky.c (x:TSky):List D:= [lD 9 x.Sheets TSheet.c,lD 3 x.Roofs TRoof.c,lD 6 x.Sightings TSighting.c]
structure TSlip where
 Lo:TFrac
 Open:Bool
 Hi:TFrac
 deriving DecidableEq,Inhabited
abbrev TSlip.c (x:TSlip):List D:= [DI x.Lo.Num,DI x.Lo.Den,DB x.Open,DI x.Hi.Num,DI x.Hi.Den]
structure Tknown where
 Sheet:TSheet
 roofs:(List TRoof)
 sightings:(List TSighting)
 slip:TSlip
 deriving DecidableEq,Inhabited
abbrev Tknown.c (x:Tknown):List D:= [DI x.Sheet.Source,DI x.Sheet.Night,DI x.Sheet.Known,DI x.Sheet.Until,lD 5 x.Sheet.Rows TRow.c,DI x.Sheet.Off.Num,DI x.Sheet.Off.Den,DI x.Sheet.Light.Lo,DI x.Sheet.Light.Hi,lD 3 x.roofs TRoof.c,lD 6 x.sightings TSighting.c,DI x.slip.Lo.Num,DI x.slip.Lo.Den,DB x.slip.Open,DI x.slip.Hi.Num,DI x.slip.Hi.Den]
structure TSpan where
 From:Int
 To:Int
 Answer:Int
 deriving DecidableEq,Inhabited
abbrev TSpan.c (x:TSpan):List D:= [DI x.From,DI x.To,DI x.Answer]
end Go.Proofs.Ytnehgkfgenhgcaa
