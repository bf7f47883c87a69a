/- Structs of the program, as Lean structures. -/
import Derived.Test.YtcedmbakcchkiaaGreatDoorC1
set_option linter.unusedVariables false
set_option linter.unusedSimpArgs false
namespace Go.Proofs.YtcedmbakcchkiaaGreatDoor
open Go Go.RowKit Go.Sx
set_option maxRecDepth 100000
set_option maxHeartbeats 20000000
abbrev W (z:Int):Int:=IntKind.i64.wrap z
structure a8y where
 x:Int
 y:Int
 signed:Bool
 code:Int
 deriving DecidableEq,Inhabited
abbrev a8y.c (x:a8y):List D:= [DI x.x,DI x.y,DB x.signed, .v (.int .u8 x.code)]
structure a2W where
 msg:ByteArray
 addr:Int
 deriving DecidableEq,Inhabited
abbrev a2W.c (x:a2W):List D:= [.v (.string x.msg), .v (.int .u64 x.addr)]
structure a8 where
 Night:Int
 Promised:Int
 Ballot:Int
 Value:Int
 deriving DecidableEq,Inhabited
abbrev a8.c (x:a8):List D:= [DI x.Night,DI x.Promised,DI x.Ballot,DI x.Value]
structure b9 where
 Night:Int
 Ballot:Int
 Value:Int
 Best:Int
 Mask:Int
 Asked:Bool
 deriving DecidableEq,Inhabited
abbrev b9.c (x:b9):List D:= [DI x.Night,DI x.Ballot,DI x.Value,DI x.Best,DI x.Mask,DB x.Asked]
structure a7 where
 Night:Int
 Ballot:Int
 Value:Int
 Mask:Int
 deriving DecidableEq,Inhabited
abbrev a7.c (x:a7):List D:= [DI x.Night,DI x.Ballot,DI x.Value,DI x.Mask]
structure b6 where
 No:Int
 Thing:Int
 To:Int
 From:Int
 Until:Int
 deriving DecidableEq,Inhabited
abbrev b6.c (x:b6):List D:= [DI x.No,DI x.Thing,DI x.To,DI x.From,DI x.Until]
structure b4 where
 Owner:Int
 No:Int
 Thing:Int
 From:Int
 Until:Int
 Back:Bool
 deriving DecidableEq,Inhabited
abbrev b4.c (x:b4):List D:= [DI x.Owner,DI x.No,DI x.Thing,DI x.From,DI x.Until,DB x.Back]
structure b7 where
 Round:Int
 Slots:(List a8)
 Bids:(List b9)
 Heard:(List a7)
 Leases:(List b6)
 Loans:(List b4)
 deriving DecidableEq,Inhabited
abbrev b7.c (x:b7):List D:= [DI x.Round,lD 4 x.Slots a8.c,lD 6 x.Bids b9.c,lD 4 x.Heard a7.c,lD 5 x.Leases b6.c,lD 6 x.Loans b4.c]
structure a6 where
 Me:Int
 Now:b7
 Safe:b7
 deriving DecidableEq,Inhabited
abbrev a6.c (x:a6):List D:= [DI x.Me,DI x.Now.Round,lD 4 x.Now.Slots a8.c,lD 6 x.Now.Bids b9.c,lD 4 x.Now.Heard a7.c,lD 5 x.Now.Leases b6.c,lD 6 x.Now.Loans b4.c,DI x.Safe.Round,lD 4 x.Safe.Slots a8.c,lD 6 x.Safe.Bids b9.c,lD 4 x.Safe.Heard a7.c,lD 5 x.Safe.Leases b6.c,lD 6 x.Safe.Loans b4.c]
structure b8 where
 Kind:Int
 From:Int
 To:Int
 Night:Int
 Ballot:Int
 Best:Int
 Value:Int
 No:Int
 Thing:Int
 Start:Int
 Until:Int
 deriving DecidableEq,Inhabited
abbrev b8.c (x:b8):List D:= [DI x.Kind,DI x.From,DI x.To,DI x.Night,DI x.Ballot,DI x.Best,DI x.Value,DI x.No,DI x.Thing,DI x.Start,DI x.Until]
structure a2X where
 Thing:Int
 To:Int
 From:Int
 Until:Int
 deriving DecidableEq,Inhabited
abbrev a2X.c (x:a2X):List D:= [DI x.Thing,DI x.To,DI x.From,DI x.Until]
structure a7V where
 Night:Int
 Value:Int
 Deal:a2X
 Loan:(Int×Int×Int)
 deriving DecidableEq,Inhabited
abbrev a7V.c (x:a7V):List D:= [DI x.Night,DI x.Value,DI x.Deal.Thing,DI x.Deal.To,DI x.Deal.From,DI x.Deal.Until,DI x.Loan.1,DI x.Loan.2.1,DI x.Loan.2.2]
structure c4I where
 Kind:Int
 Depot:Int
 Night:Int
 Value:Int
 Thing:Int
 To:Int
 From:Int
 Long:Int
 Pick:Int
 deriving DecidableEq,Inhabited
abbrev c4I.c (x:c4I):List D:= [DI x.Kind,DI x.Depot,DI x.Night,DI x.Value,DI x.Thing,DI x.To,DI x.From,DI x.Long,DI x.Pick]
structure c5g where
 All:(a6×a6×a6×a6×a6×a6)
 Calls:(List b8)
 deriving DecidableEq,Inhabited
abbrev c5g.c (x:c5g):List D:= [DI x.All.1.Me,DI x.All.1.Now.Round,lD 4 x.All.1.Now.Slots a8.c,lD 6 x.All.1.Now.Bids b9.c,lD 4 x.All.1.Now.Heard a7.c,lD 5 x.All.1.Now.Leases b6.c,lD 6 x.All.1.Now.Loans b4.c,DI x.All.1.Safe.Round,lD 4 x.All.1.Safe.Slots a8.c,lD 6 x.All.1.Safe.Bids b9.c,lD 4 x.All.1.Safe.Heard a7.c,lD 5 x.All.1.Safe.Leases b6.c,lD 6 x.All.1.Safe.Loans b4.c,DI x.All.2.1.Me,DI x.All.2.1.Now.Round,lD 4 x.All.2.1.Now.Slots a8.c,lD 6 x.All.2.1.Now.Bids b9.c,lD 4 x.All.2.1.Now.Heard a7.c,lD 5 x.All.2.1.Now.Leases b6.c,lD 6 x.All.2.1.Now.Loans b4.c,DI x.All.2.1.Safe.Round,lD 4 x.All.2.1.Safe.Slots a8.c,lD 6 x.All.2.1.Safe.Bids b9.c,lD 4 x.All.2.1.Safe.Heard a7.c,lD 5 x.All.2.1.Safe.Leases b6.c,lD 6 x.All.2.1.Safe.Loans b4.c,DI x.All.2.2.1.Me,DI x.All.2.2.1.Now.Round,lD 4 x.All.2.2.1.Now.Slots a8.c,lD 6 x.All.2.2.1.Now.Bids b9.c,lD 4 x.All.2.2.1.Now.Heard a7.c,lD 5 x.All.2.2.1.Now.Leases b6.c,lD 6 x.All.2.2.1.Now.Loans b4.c,DI x.All.2.2.1.Safe.Round,lD 4 x.All.2.2.1.Safe.Slots a8.c,lD 6 x.All.2.2.1.Safe.Bids b9.c,lD 4 x.All.2.2.1.Safe.Heard a7.c,lD 5 x.All.2.2.1.Safe.Leases b6.c,lD 6 x.All.2.2.1.Safe.Loans b4.c,DI x.All.2.2.2.1.Me,DI x.All.2.2.2.1.Now.Round,lD 4 x.All.2.2.2.1.Now.Slots a8.c,lD 6 x.All.2.2.2.1.Now.Bids b9.c,lD 4 x.All.2.2.2.1.Now.Heard a7.c,lD 5 x.All.2.2.2.1.Now.Leases b6.c,lD 6 x.All.2.2.2.1.Now.Loans b4.c,DI x.All.2.2.2.1.Safe.Round,lD 4 x.All.2.2.2.1.Safe.Slots a8.c,lD 6 x.All.2.2.2.1.Safe.Bids b9.c,lD 4 x.All.2.2.2.1.Safe.Heard a7.c,lD 5 x.All.2.2.2.1.Safe.Leases b6.c,lD 6 x.All.2.2.2.1.Safe.Loans b4.c,DI x.All.2.2.2.2.1.Me,DI x.All.2.2.2.2.1.Now.Round,lD 4 x.All.2.2.2.2.1.Now.Slots a8.c,lD 6 x.All.2.2.2.2.1.Now.Bids b9.c,lD 4 x.All.2.2.2.2.1.Now.Heard a7.c,lD 5 x.All.2.2.2.2.1.Now.Leases b6.c,lD 6 x.All.2.2.2.2.1.Now.Loans b4.c,DI x.All.2.2.2.2.1.Safe.Round,lD 4 x.All.2.2.2.2.1.Safe.Slots a8.c,lD 6 x.All.2.2.2.2.1.Safe.Bids b9.c,lD 4 x.All.2.2.2.2.1.Safe.Heard a7.c,lD 5 x.All.2.2.2.2.1.Safe.Leases b6.c,lD 6 x.All.2.2.2.2.1.Safe.Loans b4.c,DI x.All.2.2.2.2.2.Me,DI x.All.2.2.2.2.2.Now.Round,lD 4 x.All.2.2.2.2.2.Now.Slots a8.c,lD 6 x.All.2.2.2.2.2.Now.Bids b9.c,lD 4 x.All.2.2.2.2.2.Now.Heard a7.c,lD 5 x.All.2.2.2.2.2.Now.Leases b6.c,lD 6 x.All.2.2.2.2.2.Now.Loans b4.c,DI x.All.2.2.2.2.2.Safe.Round,lD 4 x.All.2.2.2.2.2.Safe.Slots a8.c,lD 6 x.All.2.2.2.2.2.Safe.Bids b9.c,lD 4 x.All.2.2.2.2.2.Safe.Heard a7.c,lD 5 x.All.2.2.2.2.2.Safe.Leases b6.c,lD 6 x.All.2.2.2.2.2.Safe.Loans b4.c,lD 11 x.Calls b8.c]
structure c0t where
 all:(List a6)
 calls:(List b8)
 told:(Int×Int×Int)
 deriving DecidableEq,Inhabited
abbrev c0t.c (x:c0t):List D:= [lD 13 x.all a6.c,lD 11 x.calls b8.c,DI x.told.1,DI x.told.2.1,DI x.told.2.2]
structure G7 where
 Station:a6
 deriving DecidableEq,Inhabited
abbrev G7.c (x:G7):List D:= [DI x.Station.Me,DI x.Station.Now.Round,lD 4 x.Station.Now.Slots a8.c,lD 6 x.Station.Now.Bids b9.c,lD 4 x.Station.Now.Heard a7.c,lD 5 x.Station.Now.Leases b6.c,lD 6 x.Station.Now.Loans b4.c,DI x.Station.Safe.Round,lD 4 x.Station.Safe.Slots a8.c,lD 6 x.Station.Safe.Bids b9.c,lD 4 x.Station.Safe.Heard a7.c,lD 5 x.Station.Safe.Leases b6.c,lD 6 x.Station.Safe.Loans b4.c]
abbrev cf1:(Option G7)→List D:=fun(x:(Option G7))=> [c5i G7.c x]
theorem zy {f:FuncId} {fn:Func} {c:Code} {args:List D} {Q:D→Prop} (pl:List (Nat×PT)) (ln un inl:List Nat) (hf:Tryz.prog.funcs[f]?=some fn) (hb:fn.body=some c) (h:M5 ⟨Tryz.prog,tt,fn.ntmps,pl,ln,un, [],inl, []⟩ c ⟨a1S 0 args, [],0⟩ (b9d ⟨Tryz.prog,tt,fn.ntmps,pl,ln,un, [],inl, []⟩ fn.results.toList Q)) (hl:args.length≤fn.ntmps:=by exact Nat.le_of_ble_eq_true rfl) (hg:fn.ntmps≤L4:=by exact Nat.le_of_ble_eq_true rfl):d7 Tryz.prog f args Q:=
 c2a (X:=⟨Tryz.prog,tt,fn.ntmps,pl,ln,un, [],inl, []⟩) pok args hf hb rfl hl h rfl hg
theorem zn {f:FuncId} {fn:Func} {c:Code} {args:List D} {Q:D→Prop} (hf:Tryz.prog.funcs[f]?=some fn) (hb:fn.body=some c) (h:M5 ⟨Tryz.prog,tt,fn.ntmps, [], [], [], [], [], []⟩ c ⟨a1S 0 args, [],0⟩ (b9d ⟨Tryz.prog,tt,fn.ntmps, [], [], [], [], [], []⟩ fn.results.toList Q)) (hl:args.length≤fn.ntmps:=by exact Nat.le_of_ble_eq_true rfl) (hg:fn.ntmps≤L4:=by exact Nat.le_of_ble_eq_true rfl):d7 Tryz.prog f args Q:=zy [] [] [] [] hf hb h hl hg
abbrev nS:D:= .v (.slice none 0 0)
end Go.Proofs.YtcedmbakcchkiaaGreatDoor
