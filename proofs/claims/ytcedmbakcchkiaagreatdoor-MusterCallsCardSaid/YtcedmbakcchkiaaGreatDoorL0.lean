/- Structs of the program, as Lean structures. -/
import Derived.Test.YtcedmbakcchkiaaGreatDoorC1
set_option linter.unusedVariables false
set_option linter.unusedSimpArgs false
namespace Go.Proofs.YtcedmbakcchkiaaGreatDoor
open Go Go.RowKit Go.Sx
set_option maxRecDepth 100000
set_option maxHeartbeats 20000000
abbrev W (z:Int):Int:=IntKind.i64.wrap z
structure TboundsError where
 x:Int
 y:Int
 signed:Bool
 code:Int
 deriving DecidableEq,Inhabited
abbrev TboundsError.c (x:TboundsError):List D:= [DI x.x,DI x.y,DB x.signed, .v (.int .u8 x.code)]
structure TerrorAddressString where
 msg:ByteArray
 addr:Int
 deriving DecidableEq,Inhabited
abbrev TerrorAddressString.c (x:TerrorAddressString):List D:= [.v (.string x.msg), .v (.int .u64 x.addr)]
structure TSlot where
 Night:Int
 Promised:Int
 Ballot:Int
 Value:Int
 deriving DecidableEq,Inhabited
abbrev TSlot.c (x:TSlot):List D:= [DI x.Night,DI x.Promised,DI x.Ballot,DI x.Value]
structure TBid where
 Night:Int
 Ballot:Int
 Value:Int
 Best:Int
 Mask:Int
 Asked:Bool
 deriving DecidableEq,Inhabited
abbrev TBid.c (x:TBid):List D:= [DI x.Night,DI x.Ballot,DI x.Value,DI x.Best,DI x.Mask,DB x.Asked]
structure THeard where
 Night:Int
 Ballot:Int
 Value:Int
 Mask:Int
 deriving DecidableEq,Inhabited
abbrev THeard.c (x:THeard):List D:= [DI x.Night,DI x.Ballot,DI x.Value,DI x.Mask]
structure TLease where
 No:Int
 Thing:Int
 To:Int
 From:Int
 Until:Int
 deriving DecidableEq,Inhabited
abbrev TLease.c (x:TLease):List D:= [DI x.No,DI x.Thing,DI x.To,DI x.From,DI x.Until]
structure TLoan where
 Owner:Int
 No:Int
 Thing:Int
 From:Int
 Until:Int
 Back:Bool
 deriving DecidableEq,Inhabited
abbrev TLoan.c (x:TLoan):List D:= [DI x.Owner,DI x.No,DI x.Thing,DI x.From,DI x.Until,DB x.Back]
structure TState where
 Round:Int
 Slots:(List TSlot)
 Bids:(List TBid)
 Heard:(List THeard)
 Leases:(List TLease)
 Loans:(List TLoan)
 deriving DecidableEq,Inhabited
abbrev TState.c (x:TState):List D:= [DI x.Round,lD 4 x.Slots TSlot.c,lD 6 x.Bids TBid.c,lD 4 x.Heard THeard.c,lD 5 x.Leases TLease.c,lD 6 x.Loans TLoan.c]
structure TStation where
 Me:Int
 Now:TState
 Safe:TState
 deriving DecidableEq,Inhabited
abbrev TStation.c (x:TStation):List D:= [DI x.Me,DI x.Now.Round,lD 4 x.Now.Slots TSlot.c,lD 6 x.Now.Bids TBid.c,lD 4 x.Now.Heard THeard.c,lD 5 x.Now.Leases TLease.c,lD 6 x.Now.Loans TLoan.c,DI x.Safe.Round,lD 4 x.Safe.Slots TSlot.c,lD 6 x.Safe.Bids TBid.c,lD 4 x.Safe.Heard THeard.c,lD 5 x.Safe.Leases TLease.c,lD 6 x.Safe.Loans TLoan.c]
structure TCall where
 Kind:Int
 From:Int
 To:Int
 Night:Int
 Ballot:Int
 Best:Int
 Value:Int
 No:Int
 Thing:Int
 Start:Int
 Until:Int
 deriving DecidableEq,Inhabited
abbrev TCall.c (x:TCall):List D:= [DI x.Kind,DI x.From,DI x.To,DI x.Night,DI x.Ballot,DI x.Best,DI x.Value,DI x.No,DI x.Thing,DI x.Start,DI x.Until]
structure TDeal where
 Thing:Int
 To:Int
 From:Int
 Until:Int
 deriving DecidableEq,Inhabited
abbrev TDeal.c (x:TDeal):List D:= [DI x.Thing,DI x.To,DI x.From,DI x.Until]
structure TAsk where
 Night:Int
 Value:Int
 Deal:TDeal
 Loan:(Int×Int×Int)
 deriving DecidableEq,Inhabited
abbrev TAsk.c (x:TAsk):List D:= [DI x.Night,DI x.Value,DI x.Deal.Thing,DI x.Deal.To,DI x.Deal.From,DI x.Deal.Until,DI x.Loan.1,DI x.Loan.2.1,DI x.Loan.2.2]
structure TAct where
 Kind:Int
 Depot:Int
 Night:Int
 Value:Int
 Thing:Int
 To:Int
 From:Int
 Long:Int
 Pick:Int
 deriving DecidableEq,Inhabited
abbrev TAct.c (x:TAct):List D:= [DI x.Kind,DI x.Depot,DI x.Night,DI x.Value,DI x.Thing,DI x.To,DI x.From,DI x.Long,DI x.Pick]
structure TSix where
 All:(TStation×TStation×TStation×TStation×TStation×TStation)
 Calls:(List TCall)
 deriving DecidableEq,Inhabited
abbrev TSix.c (x:TSix):List D:= [DI x.All.1.Me,DI x.All.1.Now.Round,lD 4 x.All.1.Now.Slots TSlot.c,lD 6 x.All.1.Now.Bids TBid.c,lD 4 x.All.1.Now.Heard THeard.c,lD 5 x.All.1.Now.Leases TLease.c,lD 6 x.All.1.Now.Loans TLoan.c,DI x.All.1.Safe.Round,lD 4 x.All.1.Safe.Slots TSlot.c,lD 6 x.All.1.Safe.Bids TBid.c,lD 4 x.All.1.Safe.Heard THeard.c,lD 5 x.All.1.Safe.Leases TLease.c,lD 6 x.All.1.Safe.Loans TLoan.c,DI x.All.2.1.Me,DI x.All.2.1.Now.Round,lD 4 x.All.2.1.Now.Slots TSlot.c,lD 6 x.All.2.1.Now.Bids TBid.c,lD 4 x.All.2.1.Now.Heard THeard.c,lD 5 x.All.2.1.Now.Leases TLease.c,lD 6 x.All.2.1.Now.Loans TLoan.c,DI x.All.2.1.Safe.Round,lD 4 x.All.2.1.Safe.Slots TSlot.c,lD 6 x.All.2.1.Safe.Bids TBid.c,lD 4 x.All.2.1.Safe.Heard THeard.c,lD 5 x.All.2.1.Safe.Leases TLease.c,lD 6 x.All.2.1.Safe.Loans TLoan.c,DI x.All.2.2.1.Me,DI x.All.2.2.1.Now.Round,lD 4 x.All.2.2.1.Now.Slots TSlot.c,lD 6 x.All.2.2.1.Now.Bids TBid.c,lD 4 x.All.2.2.1.Now.Heard THeard.c,lD 5 x.All.2.2.1.Now.Leases TLease.c,lD 6 x.All.2.2.1.Now.Loans TLoan.c,DI x.All.2.2.1.Safe.Round,lD 4 x.All.2.2.1.Safe.Slots TSlot.c,lD 6 x.All.2.2.1.Safe.Bids TBid.c,lD 4 x.All.2.2.1.Safe.Heard THeard.c,lD 5 x.All.2.2.1.Safe.Leases TLease.c,lD 6 x.All.2.2.1.Safe.Loans TLoan.c,DI x.All.2.2.2.1.Me,DI x.All.2.2.2.1.Now.Round,lD 4 x.All.2.2.2.1.Now.Slots TSlot.c,lD 6 x.All.2.2.2.1.Now.Bids TBid.c,lD 4 x.All.2.2.2.1.Now.Heard THeard.c,lD 5 x.All.2.2.2.1.Now.Leases TLease.c,lD 6 x.All.2.2.2.1.Now.Loans TLoan.c,DI x.All.2.2.2.1.Safe.Round,lD 4 x.All.2.2.2.1.Safe.Slots TSlot.c,lD 6 x.All.2.2.2.1.Safe.Bids TBid.c,lD 4 x.All.2.2.2.1.Safe.Heard THeard.c,lD 5 x.All.2.2.2.1.Safe.Leases TLease.c,lD 6 x.All.2.2.2.1.Safe.Loans TLoan.c,DI x.All.2.2.2.2.1.Me,DI x.All.2.2.2.2.1.Now.Round,lD 4 x.All.2.2.2.2.1.Now.Slots TSlot.c,lD 6 x.All.2.2.2.2.1.Now.Bids TBid.c,lD 4 x.All.2.2.2.2.1.Now.Heard THeard.c,lD 5 x.All.2.2.2.2.1.Now.Leases TLease.c,lD 6 x.All.2.2.2.2.1.Now.Loans TLoan.c,DI x.All.2.2.2.2.1.Safe.Round,lD 4 x.All.2.2.2.2.1.Safe.Slots TSlot.c,lD 6 x.All.2.2.2.2.1.Safe.Bids TBid.c,lD 4 x.All.2.2.2.2.1.Safe.Heard THeard.c,lD 5 x.All.2.2.2.2.1.Safe.Leases TLease.c,lD 6 x.All.2.2.2.2.1.Safe.Loans TLoan.c,DI x.All.2.2.2.2.2.Me,DI x.All.2.2.2.2.2.Now.Round,lD 4 x.All.2.2.2.2.2.Now.Slots TSlot.c,lD 6 x.All.2.2.2.2.2.Now.Bids TBid.c,lD 4 x.All.2.2.2.2.2.Now.Heard THeard.c,lD 5 x.All.2.2.2.2.2.Now.Leases TLease.c,lD 6 x.All.2.2.2.2.2.Now.Loans TLoan.c,DI x.All.2.2.2.2.2.Safe.Round,lD 4 x.All.2.2.2.2.2.Safe.Slots TSlot.c,lD 6 x.All.2.2.2.2.2.Safe.Bids TBid.c,lD 4 x.All.2.2.2.2.2.Safe.Heard THeard.c,lD 5 x.All.2.2.2.2.2.Safe.Leases TLease.c,lD 6 x.All.2.2.2.2.2.Safe.Loans TLoan.c,lD 11 x.Calls TCall.c]
structure Tworld where
 all:(List TStation)
 calls:(List TCall)
 told:(Int×Int×Int)
 deriving DecidableEq,Inhabited
abbrev Tworld.c (x:Tworld):List D:= [lD 13 x.all TStation.c,lD 11 x.calls TCall.c,DI x.told.1,DI x.told.2.1,DI x.told.2.2]
structure Tpost where
 Station:TStation
 deriving DecidableEq,Inhabited
abbrev Tpost.c (x:Tpost):List D:= [DI x.Station.Me,DI x.Station.Now.Round,lD 4 x.Station.Now.Slots TSlot.c,lD 6 x.Station.Now.Bids TBid.c,lD 4 x.Station.Now.Heard THeard.c,lD 5 x.Station.Now.Leases TLease.c,lD 6 x.Station.Now.Loans TLoan.c,DI x.Station.Safe.Round,lD 4 x.Station.Safe.Slots TSlot.c,lD 6 x.Station.Safe.Bids TBid.c,lD 4 x.Station.Safe.Heard THeard.c,lD 5 x.Station.Safe.Leases TLease.c,lD 6 x.Station.Safe.Loans TLoan.c]
abbrev cf1:(Option Tpost)→List D:=fun(x:(Option Tpost))=> [optp Tpost.c x]
theorem zy {f:FuncId} {fn:Func} {c:Code} {args:List D} {Q:D→Prop} (pl:List (Nat×PT)) (ln un inl:List Nat) (hf:Tryz.prog.funcs[f]?=some fn) (hb:fn.body=some c) (h:codeZ ⟨Tryz.prog,tt,fn.ntmps,pl,ln,un, [],inl, []⟩ c ⟨zipY 0 args, [],0⟩ (retY ⟨Tryz.prog,tt,fn.ntmps,pl,ln,un, [],inl, []⟩ fn.results.toList Q)) (hl:args.length≤fn.ntmps:=by exact Nat.le_of_ble_eq_true rfl) (hg:fn.ntmps≤gbase:=by exact Nat.le_of_ble_eq_true rfl):Does Tryz.prog f args Q:=
 does_zy (X:=⟨Tryz.prog,tt,fn.ntmps,pl,ln,un, [],inl, []⟩) pok args hf hb rfl hl h rfl hg
theorem zn {f:FuncId} {fn:Func} {c:Code} {args:List D} {Q:D→Prop} (hf:Tryz.prog.funcs[f]?=some fn) (hb:fn.body=some c) (h:codeZ ⟨Tryz.prog,tt,fn.ntmps, [], [], [], [], [], []⟩ c ⟨zipY 0 args, [],0⟩ (retY ⟨Tryz.prog,tt,fn.ntmps, [], [], [], [], [], []⟩ fn.results.toList Q)) (hl:args.length≤fn.ntmps:=by exact Nat.le_of_ble_eq_true rfl) (hg:fn.ntmps≤gbase:=by exact Nat.le_of_ble_eq_true rfl):Does Tryz.prog f args Q:=zy [] [] [] [] hf hb h hl hg
end Go.Proofs.YtcedmbakcchkiaaGreatDoor
