/- Structs of the program, as Lean structures. -/
import Derived.Test.YtcedmbakcchkiaaGreatDoorC1
set_option linter.unusedVariables false
set_option linter.unusedSimpArgs false
namespace Go.Proofs.YtcedmbakcchkiaaGreatDoor
open Go Go.RowKit Go.Sx
set_option maxRecDepth 100000
set_option maxHeartbeats 20000000
abbrev W (z:Int):Int:=IntKind.i64.wrap z
structure a7J where
 x:Int
 y:Int
 signed:Bool
 code:Int
 deriving DecidableEq,Inhabited
abbrev a7J.c (x:a7J):List D:= [DI x.x,DI x.y,DB x.signed, .v (.int .u8 x.code)]
structure a1W where
 msg:ByteArray
 addr:Int
 deriving DecidableEq,Inhabited
abbrev a1W.c (x:a1W):List D:= [.v (.string x.msg), .v (.int .u64 x.addr)]
structure b6 where
 Night:Int
 Promised:Int
 Ballot:Int
 Value:Int
 deriving DecidableEq,Inhabited
abbrev b6.c (x:b6):List D:= [DI x.Night,DI x.Promised,DI x.Ballot,DI x.Value]
structure c4 where
 Night:Int
 Ballot:Int
 Value:Int
 Best:Int
 Mask:Int
 Asked:Bool
 deriving DecidableEq,Inhabited
abbrev c4.c (x:c4):List D:= [DI x.Night,DI x.Ballot,DI x.Value,DI x.Best,DI x.Mask,DB x.Asked]
structure b4 where
 Night:Int
 Ballot:Int
 Value:Int
 Mask:Int
 deriving DecidableEq,Inhabited
abbrev b4.c (x:b4):List D:= [DI x.Night,DI x.Ballot,DI x.Value,DI x.Mask]
structure a7 where
 No:Int
 Thing:Int
 To:Int
 From:Int
 Until:Int
 deriving DecidableEq,Inhabited
abbrev a7.c (x:a7):List D:= [DI x.No,DI x.Thing,DI x.To,DI x.From,DI x.Until]
structure b9 where
 Owner:Int
 No:Int
 Thing:Int
 From:Int
 Until:Int
 Back:Bool
 deriving DecidableEq,Inhabited
abbrev b9.c (x:b9):List D:= [DI x.Owner,DI x.No,DI x.Thing,DI x.From,DI x.Until,DB x.Back]
structure b5 where
 Round:Int
 Slots:(List b6)
 Bids:(List c4)
 Heard:(List b4)
 Leases:(List a7)
 Loans:(List b9)
 deriving DecidableEq,Inhabited
abbrev b5.c (x:b5):List D:= [DI x.Round,lD 4 x.Slots b6.c,lD 6 x.Bids c4.c,lD 4 x.Heard b4.c,lD 5 x.Leases a7.c,lD 6 x.Loans b9.c]
structure a6 where
 Me:Int
 Now:b5
 Safe:b5
 deriving DecidableEq,Inhabited
abbrev a6.c (x:a6):List D:= [DI x.Me,DI x.Now.Round,lD 4 x.Now.Slots b6.c,lD 6 x.Now.Bids c4.c,lD 4 x.Now.Heard b4.c,lD 5 x.Now.Leases a7.c,lD 6 x.Now.Loans b9.c,DI x.Safe.Round,lD 4 x.Safe.Slots b6.c,lD 6 x.Safe.Bids c4.c,lD 4 x.Safe.Heard b4.c,lD 5 x.Safe.Leases a7.c,lD 6 x.Safe.Loans b9.c]
structure b7 where
 Kind:Int
 From:Int
 To:Int
 Night:Int
 Ballot:Int
 Best:Int
 Value:Int
 No:Int
 Thing:Int
 Start:Int
 Until:Int
 deriving DecidableEq,Inhabited
abbrev b7.c (x:b7):List D:= [DI x.Kind,DI x.From,DI x.To,DI x.Night,DI x.Ballot,DI x.Best,DI x.Value,DI x.No,DI x.Thing,DI x.Start,DI x.Until]
structure b9s where
 Thing:Int
 To:Int
 From:Int
 Until:Int
 deriving DecidableEq,Inhabited
abbrev b9s.c (x:b9s):List D:= [DI x.Thing,DI x.To,DI x.From,DI x.Until]
structure c3X where
 Night:Int
 Value:Int
 Deal:b9s
 Loan:(Int×Int×Int)
 deriving DecidableEq,Inhabited
abbrev c3X.c (x:c3X):List D:= [DI x.Night,DI x.Value,DI x.Deal.Thing,DI x.Deal.To,DI x.Deal.From,DI x.Deal.Until,DI x.Loan.1,DI x.Loan.2.1,DI x.Loan.2.2]
structure c2P where
 Kind:Int
 Depot:Int
 Night:Int
 Value:Int
 Thing:Int
 To:Int
 From:Int
 Long:Int
 Pick:Int
 deriving DecidableEq,Inhabited
abbrev c2P.c (x:c2P):List D:= [DI x.Kind,DI x.Depot,DI x.Night,DI x.Value,DI x.Thing,DI x.To,DI x.From,DI x.Long,DI x.Pick]
structure c2J where
 All:(a6×a6×a6×a6×a6×a6)
 Calls:(List b7)
 deriving DecidableEq,Inhabited
abbrev c2J.c (x:c2J):List D:= [DI x.All.1.Me,DI x.All.1.Now.Round,lD 4 x.All.1.Now.Slots b6.c,lD 6 x.All.1.Now.Bids c4.c,lD 4 x.All.1.Now.Heard b4.c,lD 5 x.All.1.Now.Leases a7.c,lD 6 x.All.1.Now.Loans b9.c,DI x.All.1.Safe.Round,lD 4 x.All.1.Safe.Slots b6.c,lD 6 x.All.1.Safe.Bids c4.c,lD 4 x.All.1.Safe.Heard b4.c,lD 5 x.All.1.Safe.Leases a7.c,lD 6 x.All.1.Safe.Loans b9.c,DI x.All.2.1.Me,DI x.All.2.1.Now.Round,lD 4 x.All.2.1.Now.Slots b6.c,lD 6 x.All.2.1.Now.Bids c4.c,lD 4 x.All.2.1.Now.Heard b4.c,lD 5 x.All.2.1.Now.Leases a7.c,lD 6 x.All.2.1.Now.Loans b9.c,DI x.All.2.1.Safe.Round,lD 4 x.All.2.1.Safe.Slots b6.c,lD 6 x.All.2.1.Safe.Bids c4.c,lD 4 x.All.2.1.Safe.Heard b4.c,lD 5 x.All.2.1.Safe.Leases a7.c,lD 6 x.All.2.1.Safe.Loans b9.c,DI x.All.2.2.1.Me,DI x.All.2.2.1.Now.Round,lD 4 x.All.2.2.1.Now.Slots b6.c,lD 6 x.All.2.2.1.Now.Bids c4.c,lD 4 x.All.2.2.1.Now.Heard b4.c,lD 5 x.All.2.2.1.Now.Leases a7.c,lD 6 x.All.2.2.1.Now.Loans b9.c,DI x.All.2.2.1.Safe.Round,lD 4 x.All.2.2.1.Safe.Slots b6.c,lD 6 x.All.2.2.1.Safe.Bids c4.c,lD 4 x.All.2.2.1.Safe.Heard b4.c,lD 5 x.All.2.2.1.Safe.Leases a7.c,lD 6 x.All.2.2.1.Safe.Loans b9.c,DI x.All.2.2.2.1.Me,DI x.All.2.2.2.1.Now.Round,lD 4 x.All.2.2.2.1.Now.Slots b6.c,lD 6 x.All.2.2.2.1.Now.Bids c4.c,lD 4 x.All.2.2.2.1.Now.Heard b4.c,lD 5 x.All.2.2.2.1.Now.Leases a7.c,lD 6 x.All.2.2.2.1.Now.Loans b9.c,DI x.All.2.2.2.1.Safe.Round,lD 4 x.All.2.2.2.1.Safe.Slots b6.c,lD 6 x.All.2.2.2.1.Safe.Bids c4.c,lD 4 x.All.2.2.2.1.Safe.Heard b4.c,lD 5 x.All.2.2.2.1.Safe.Leases a7.c,lD 6 x.All.2.2.2.1.Safe.Loans b9.c,DI x.All.2.2.2.2.1.Me,DI x.All.2.2.2.2.1.Now.Round,lD 4 x.All.2.2.2.2.1.Now.Slots b6.c,lD 6 x.All.2.2.2.2.1.Now.Bids c4.c,lD 4 x.All.2.2.2.2.1.Now.Heard b4.c,lD 5 x.All.2.2.2.2.1.Now.Leases a7.c,lD 6 x.All.2.2.2.2.1.Now.Loans b9.c,DI x.All.2.2.2.2.1.Safe.Round,lD 4 x.All.2.2.2.2.1.Safe.Slots b6.c,lD 6 x.All.2.2.2.2.1.Safe.Bids c4.c,lD 4 x.All.2.2.2.2.1.Safe.Heard b4.c,lD 5 x.All.2.2.2.2.1.Safe.Leases a7.c,lD 6 x.All.2.2.2.2.1.Safe.Loans b9.c,DI x.All.2.2.2.2.2.Me,DI x.All.2.2.2.2.2.Now.Round,lD 4 x.All.2.2.2.2.2.Now.Slots b6.c,lD 6 x.All.2.2.2.2.2.Now.Bids c4.c,lD 4 x.All.2.2.2.2.2.Now.Heard b4.c,lD 5 x.All.2.2.2.2.2.Now.Leases a7.c,lD 6 x.All.2.2.2.2.2.Now.Loans b9.c,DI x.All.2.2.2.2.2.Safe.Round,lD 4 x.All.2.2.2.2.2.Safe.Slots b6.c,lD 6 x.All.2.2.2.2.2.Safe.Bids c4.c,lD 4 x.All.2.2.2.2.2.Safe.Heard b4.c,lD 5 x.All.2.2.2.2.2.Safe.Leases a7.c,lD 6 x.All.2.2.2.2.2.Safe.Loans b9.c,lD 11 x.Calls b7.c]
structure b9l where
 all:(List a6)
 calls:(List b7)
 told:(Int×Int×Int)
 deriving DecidableEq,Inhabited
abbrev b9l.c (x:b9l):List D:= [lD 13 x.all a6.c,lD 11 x.calls b7.c,DI x.told.1,DI x.told.2.1,DI x.told.2.2]
structure e8 where
 Station:a6
 deriving DecidableEq,Inhabited
abbrev e8.c (x:e8):List D:= [DI x.Station.Me,DI x.Station.Now.Round,lD 4 x.Station.Now.Slots b6.c,lD 6 x.Station.Now.Bids c4.c,lD 4 x.Station.Now.Heard b4.c,lD 5 x.Station.Now.Leases a7.c,lD 6 x.Station.Now.Loans b9.c,DI x.Station.Safe.Round,lD 4 x.Station.Safe.Slots b6.c,lD 6 x.Station.Safe.Bids c4.c,lD 4 x.Station.Safe.Heard b4.c,lD 5 x.Station.Safe.Leases a7.c,lD 6 x.Station.Safe.Loans b9.c]
abbrev cf1:(Option e8)→List D:=fun(x:(Option e8))=> [c2Q e8.c x]
theorem zy {f:FuncId} {fn:Func} {c:Code} {args:List D} {Q:D→Prop} (pl:List (Nat×PT)) (ln un inl:List Nat) (hf:Tryz.prog.funcs[f]?=some fn) (hb:fn.body=some c) (h:J6 ⟨Tryz.prog,tt,fn.ntmps,pl,ln,un, [],inl, []⟩ c ⟨a0Y 0 args, [],0⟩ (b8i ⟨Tryz.prog,tt,fn.ntmps,pl,ln,un, [],inl, []⟩ fn.results.toList Q)) (hl:args.length≤fn.ntmps:=by exact Nat.le_of_ble_eq_true rfl) (hg:fn.ntmps≤I9:=by exact Nat.le_of_ble_eq_true rfl):d0 Tryz.prog f args Q:=
 c0G (X:=⟨Tryz.prog,tt,fn.ntmps,pl,ln,un, [],inl, []⟩) pok args hf hb rfl hl h rfl hg
theorem zn {f:FuncId} {fn:Func} {c:Code} {args:List D} {Q:D→Prop} (hf:Tryz.prog.funcs[f]?=some fn) (hb:fn.body=some c) (h:J6 ⟨Tryz.prog,tt,fn.ntmps, [], [], [], [], [], []⟩ c ⟨a0Y 0 args, [],0⟩ (b8i ⟨Tryz.prog,tt,fn.ntmps, [], [], [], [], [], []⟩ fn.results.toList Q)) (hl:args.length≤fn.ntmps:=by exact Nat.le_of_ble_eq_true rfl) (hg:fn.ntmps≤I9:=by exact Nat.le_of_ble_eq_true rfl):d0 Tryz.prog f args Q:=zy [] [] [] [] hf hb h hl hg
abbrev nS:D:= .v (.slice none 0 0)
end Go.Proofs.YtcedmbakcchkiaaGreatDoor
