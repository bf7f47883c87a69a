/- Structs of the program, as Lean structures. -/
import Derived.Test.YtcedmbakcchkiaaGreatDoorC1
set_option linter.unusedVariables false
set_option linter.unusedSimpArgs false
namespace Go.Proofs.YtcedmbakcchkiaaGreatDoor
open Go Go.RowKit Go.Sx
set_option maxRecDepth 100000
set_option maxHeartbeats 20000000
abbrev W (z:Int):Int:=IntKind.i64.wrap z
structure a8t where
 x:Int
 y:Int
 signed:Bool
 code:Int
 deriving DecidableEq,Inhabited
abbrev a8t.c (x:a8t):List D:= [DI x.x,DI x.y,DB x.signed, .v (.int .u8 x.code)]
structure a3C where
 msg:ByteArray
 addr:Int
 deriving DecidableEq,Inhabited
abbrev a3C.c (x:a3C):List D:= [.v (.string x.msg), .v (.int .u64 x.addr)]
structure d0 where
 Night:Int
 Promised:Int
 Ballot:Int
 Value:Int
 deriving DecidableEq,Inhabited
abbrev d0.c (x:d0):List D:= [DI x.Night,DI x.Promised,DI x.Ballot,DI x.Value]
structure d9 where
 Night:Int
 Ballot:Int
 Value:Int
 Best:Int
 Mask:Int
 Asked:Bool
 deriving DecidableEq,Inhabited
abbrev d9.c (x:d9):List D:= [DI x.Night,DI x.Ballot,DI x.Value,DI x.Best,DI x.Mask,DB x.Asked]
structure c9 where
 Night:Int
 Ballot:Int
 Value:Int
 Mask:Int
 deriving DecidableEq,Inhabited
abbrev c9.c (x:c9):List D:= [DI x.Night,DI x.Ballot,DI x.Value,DI x.Mask]
structure c0 where
 No:Int
 Thing:Int
 To:Int
 From:Int
 Until:Int
 deriving DecidableEq,Inhabited
abbrev c0.c (x:c0):List D:= [DI x.No,DI x.Thing,DI x.To,DI x.From,DI x.Until]
structure d7 where
 Owner:Int
 No:Int
 Thing:Int
 From:Int
 Until:Int
 Back:Bool
 deriving DecidableEq,Inhabited
abbrev d7.c (x:d7):List D:= [DI x.Owner,DI x.No,DI x.Thing,DI x.From,DI x.Until,DB x.Back]
structure c8 where
 Round:Int
 Slots:(List d0)
 Bids:(List d9)
 Heard:(List c9)
 Leases:(List c0)
 Loans:(List d7)
 deriving DecidableEq,Inhabited
abbrev c8.c (x:c8):List D:= [DI x.Round,lD 4 x.Slots d0.c,lD 6 x.Bids d9.c,lD 4 x.Heard c9.c,lD 5 x.Leases c0.c,lD 6 x.Loans d7.c]
structure a8 where
 Me:Int
 Now:c8
 Safe:c8
 deriving DecidableEq,Inhabited
abbrev a8.c (x:a8):List D:= [DI x.Me,DI x.Now.Round,lD 4 x.Now.Slots d0.c,lD 6 x.Now.Bids d9.c,lD 4 x.Now.Heard c9.c,lD 5 x.Now.Leases c0.c,lD 6 x.Now.Loans d7.c,DI x.Safe.Round,lD 4 x.Safe.Slots d0.c,lD 6 x.Safe.Bids d9.c,lD 4 x.Safe.Heard c9.c,lD 5 x.Safe.Leases c0.c,lD 6 x.Safe.Loans d7.c]
structure b8 where
 Kind:Int
 From:Int
 To:Int
 Night:Int
 Ballot:Int
 Best:Int
 Value:Int
 No:Int
 Thing:Int
 Start:Int
 Until:Int
 deriving DecidableEq,Inhabited
abbrev b8.c (x:b8):List D:= [DI x.Kind,DI x.From,DI x.To,DI x.Night,DI x.Ballot,DI x.Best,DI x.Value,DI x.No,DI x.Thing,DI x.Start,DI x.Until]
structure b2A where
 Thing:Int
 To:Int
 From:Int
 Until:Int
 deriving DecidableEq,Inhabited
abbrev b2A.c (x:b2A):List D:= [DI x.Thing,DI x.To,DI x.From,DI x.Until]
structure c5U where
 Night:Int
 Value:Int
 Deal:b2A
 Loan:(Int×Int×Int)
 deriving DecidableEq,Inhabited
abbrev c5U.c (x:c5U):List D:= [DI x.Night,DI x.Value,DI x.Deal.Thing,DI x.Deal.To,DI x.Deal.From,DI x.Deal.Until,DI x.Loan.1,DI x.Loan.2.1,DI x.Loan.2.2]
structure N9 where
 Kind:Int
 Depot:Int
 Night:Int
 Value:Int
 Thing:Int
 To:Int
 From:Int
 Long:Int
 Pick:Int
 deriving DecidableEq,Inhabited
abbrev N9.c (x:N9):List D:= [DI x.Kind,DI x.Depot,DI x.Night,DI x.Value,DI x.Thing,DI x.To,DI x.From,DI x.Long,DI x.Pick]
structure c5a where
 All:(a8×a8×a8×a8×a8×a8)
 Calls:(List b8)
 deriving DecidableEq,Inhabited
abbrev c5a.c (x:c5a):List D:= [DI x.All.1.Me,DI x.All.1.Now.Round,lD 4 x.All.1.Now.Slots d0.c,lD 6 x.All.1.Now.Bids d9.c,lD 4 x.All.1.Now.Heard c9.c,lD 5 x.All.1.Now.Leases c0.c,lD 6 x.All.1.Now.Loans d7.c,DI x.All.1.Safe.Round,lD 4 x.All.1.Safe.Slots d0.c,lD 6 x.All.1.Safe.Bids d9.c,lD 4 x.All.1.Safe.Heard c9.c,lD 5 x.All.1.Safe.Leases c0.c,lD 6 x.All.1.Safe.Loans d7.c,DI x.All.2.1.Me,DI x.All.2.1.Now.Round,lD 4 x.All.2.1.Now.Slots d0.c,lD 6 x.All.2.1.Now.Bids d9.c,lD 4 x.All.2.1.Now.Heard c9.c,lD 5 x.All.2.1.Now.Leases c0.c,lD 6 x.All.2.1.Now.Loans d7.c,DI x.All.2.1.Safe.Round,lD 4 x.All.2.1.Safe.Slots d0.c,lD 6 x.All.2.1.Safe.Bids d9.c,lD 4 x.All.2.1.Safe.Heard c9.c,lD 5 x.All.2.1.Safe.Leases c0.c,lD 6 x.All.2.1.Safe.Loans d7.c,DI x.All.2.2.1.Me,DI x.All.2.2.1.Now.Round,lD 4 x.All.2.2.1.Now.Slots d0.c,lD 6 x.All.2.2.1.Now.Bids d9.c,lD 4 x.All.2.2.1.Now.Heard c9.c,lD 5 x.All.2.2.1.Now.Leases c0.c,lD 6 x.All.2.2.1.Now.Loans d7.c,DI x.All.2.2.1.Safe.Round,lD 4 x.All.2.2.1.Safe.Slots d0.c,lD 6 x.All.2.2.1.Safe.Bids d9.c,lD 4 x.All.2.2.1.Safe.Heard c9.c,lD 5 x.All.2.2.1.Safe.Leases c0.c,lD 6 x.All.2.2.1.Safe.Loans d7.c,DI x.All.2.2.2.1.Me,DI x.All.2.2.2.1.Now.Round,lD 4 x.All.2.2.2.1.Now.Slots d0.c,lD 6 x.All.2.2.2.1.Now.Bids d9.c,lD 4 x.All.2.2.2.1.Now.Heard c9.c,lD 5 x.All.2.2.2.1.Now.Leases c0.c,lD 6 x.All.2.2.2.1.Now.Loans d7.c,DI x.All.2.2.2.1.Safe.Round,lD 4 x.All.2.2.2.1.Safe.Slots d0.c,lD 6 x.All.2.2.2.1.Safe.Bids d9.c,lD 4 x.All.2.2.2.1.Safe.Heard c9.c,lD 5 x.All.2.2.2.1.Safe.Leases c0.c,lD 6 x.All.2.2.2.1.Safe.Loans d7.c,DI x.All.2.2.2.2.1.Me,DI x.All.2.2.2.2.1.Now.Round,lD 4 x.All.2.2.2.2.1.Now.Slots d0.c,lD 6 x.All.2.2.2.2.1.Now.Bids d9.c,lD 4 x.All.2.2.2.2.1.Now.Heard c9.c,lD 5 x.All.2.2.2.2.1.Now.Leases c0.c,lD 6 x.All.2.2.2.2.1.Now.Loans d7.c,DI x.All.2.2.2.2.1.Safe.Round,lD 4 x.All.2.2.2.2.1.Safe.Slots d0.c,lD 6 x.All.2.2.2.2.1.Safe.Bids d9.c,lD 4 x.All.2.2.2.2.1.Safe.Heard c9.c,lD 5 x.All.2.2.2.2.1.Safe.Leases c0.c,lD 6 x.All.2.2.2.2.1.Safe.Loans d7.c,DI x.All.2.2.2.2.2.Me,DI x.All.2.2.2.2.2.Now.Round,lD 4 x.All.2.2.2.2.2.Now.Slots d0.c,lD 6 x.All.2.2.2.2.2.Now.Bids d9.c,lD 4 x.All.2.2.2.2.2.Now.Heard c9.c,lD 5 x.All.2.2.2.2.2.Now.Leases c0.c,lD 6 x.All.2.2.2.2.2.Now.Loans d7.c,DI x.All.2.2.2.2.2.Safe.Round,lD 4 x.All.2.2.2.2.2.Safe.Slots d0.c,lD 6 x.All.2.2.2.2.2.Safe.Bids d9.c,lD 4 x.All.2.2.2.2.2.Safe.Heard c9.c,lD 5 x.All.2.2.2.2.2.Safe.Leases c0.c,lD 6 x.All.2.2.2.2.2.Safe.Loans d7.c,lD 11 x.Calls b8.c]
structure j0 where
 all:(List a8)
 calls:(List b8)
 told:(Int×Int×Int)
 deriving DecidableEq,Inhabited
abbrev j0.c (x:j0):List D:= [lD 13 x.all a8.c,lD 11 x.calls b8.c,DI x.told.1,DI x.told.2.1,DI x.told.2.2]
structure I3 where
 Station:a8
 deriving DecidableEq,Inhabited
abbrev I3.c (x:I3):List D:= [DI x.Station.Me,DI x.Station.Now.Round,lD 4 x.Station.Now.Slots d0.c,lD 6 x.Station.Now.Bids d9.c,lD 4 x.Station.Now.Heard c9.c,lD 5 x.Station.Now.Leases c0.c,lD 6 x.Station.Now.Loans d7.c,DI x.Station.Safe.Round,lD 4 x.Station.Safe.Slots d0.c,lD 6 x.Station.Safe.Bids d9.c,lD 4 x.Station.Safe.Heard c9.c,lD 5 x.Station.Safe.Leases c0.c,lD 6 x.Station.Safe.Loans d7.c]
abbrev cf1:(Option I3)→List D:=fun(x:(Option I3))=> [c5W I3.c x]
theorem zy {f:FuncId} {fn:Func} {c:Code} {args:List D} {Q:D→Prop} (pl:List (Nat×PT)) (ln un inl:List Nat) (hf:Tryz.prog.funcs[f]?=some fn) (hb:fn.body=some c) (h:R7 ⟨Tryz.prog,tt,fn.ntmps,pl,ln,un, [],inl, []⟩ c ⟨a2H 0 args, [],0⟩ (b9O ⟨Tryz.prog,tt,fn.ntmps,pl,ln,un, [],inl, []⟩ fn.results.toList Q)) (hl:args.length≤fn.ntmps:=by exact Nat.le_of_ble_eq_true rfl) (hg:fn.ntmps≤R0:=by exact Nat.le_of_ble_eq_true rfl):l8 Tryz.prog f args Q:=
 c2z (X:=⟨Tryz.prog,tt,fn.ntmps,pl,ln,un, [],inl, []⟩) pok args hf hb rfl hl h rfl hg
theorem zn {f:FuncId} {fn:Func} {c:Code} {args:List D} {Q:D→Prop} (hf:Tryz.prog.funcs[f]?=some fn) (hb:fn.body=some c) (h:R7 ⟨Tryz.prog,tt,fn.ntmps, [], [], [], [], [], []⟩ c ⟨a2H 0 args, [],0⟩ (b9O ⟨Tryz.prog,tt,fn.ntmps, [], [], [], [], [], []⟩ fn.results.toList Q)) (hl:args.length≤fn.ntmps:=by exact Nat.le_of_ble_eq_true rfl) (hg:fn.ntmps≤R0:=by exact Nat.le_of_ble_eq_true rfl):l8 Tryz.prog f args Q:=zy [] [] [] [] hf hb h hl hg
abbrev nS:D:= .v (.slice none 0 0)
end Go.Proofs.YtcedmbakcchkiaaGreatDoor
