/- Structs of the program, as Lean structures. -/
import Derived.Test.YtcedmbakcchkiaaGreatDoorC1
set_option linter.unusedVariables false
set_option linter.unusedSimpArgs false
namespace Go.Proofs.YtcedmbakcchkiaaGreatDoor
open Go Go.RowKit Go.Sx
set_option maxRecDepth 100000
set_option maxHeartbeats 20000000
abbrev W (z:Int):Int:=IntKind.i64.wrap z
structure a8v where
 x:Int
 y:Int
 signed:Bool
 code:Int
 deriving DecidableEq,Inhabited
abbrev a8v.c (x:a8v):List D:= [DI x.x,DI x.y,DB x.signed, .v (.int .u8 x.code)]
structure a3q where
 msg:ByteArray
 addr:Int
 deriving DecidableEq,Inhabited
abbrev a3q.c (x:a3q):List D:= [.v (.string x.msg), .v (.int .u64 x.addr)]
structure d0 where
 Night:Int
 Promised:Int
 Ballot:Int
 Value:Int
 deriving DecidableEq,Inhabited
abbrev d0.c (x:d0):List D:= [DI x.Night,DI x.Promised,DI x.Ballot,DI x.Value]
structure i0 where
 Night:Int
 Ballot:Int
 Value:Int
 Best:Int
 Mask:Int
 Asked:Bool
 deriving DecidableEq,Inhabited
abbrev i0.c (x:i0):List D:= [DI x.Night,DI x.Ballot,DI x.Value,DI x.Best,DI x.Mask,DB x.Asked]
structure c9 where
 Night:Int
 Ballot:Int
 Value:Int
 Mask:Int
 deriving DecidableEq,Inhabited
abbrev c9.c (x:c9):List D:= [DI x.Night,DI x.Ballot,DI x.Value,DI x.Mask]
structure c0 where
 No:Int
 Thing:Int
 To:Int
 From:Int
 Until:Int
 deriving DecidableEq,Inhabited
abbrev c0.c (x:c0):List D:= [DI x.No,DI x.Thing,DI x.To,DI x.From,DI x.Until]
structure d7 where
 Owner:Int
 No:Int
 Thing:Int
 From:Int
 Until:Int
 Back:Bool
 deriving DecidableEq,Inhabited
abbrev d7.c (x:d7):List D:= [DI x.Owner,DI x.No,DI x.Thing,DI x.From,DI x.Until,DB x.Back]
structure c8 where
 Round:Int
 Slots:(List d0)
 Bids:(List i0)
 Heard:(List c9)
 Leases:(List c0)
 Loans:(List d7)
 deriving DecidableEq,Inhabited
abbrev c8.c (x:c8):List D:= [DI x.Round,lD 4 x.Slots d0.c,lD 6 x.Bids i0.c,lD 4 x.Heard c9.c,lD 5 x.Leases c0.c,lD 6 x.Loans d7.c]
structure a8 where
 Me:Int
 Now:c8
 Safe:c8
 deriving DecidableEq,Inhabited
abbrev a8.c (x:a8):List D:= [DI x.Me,DI x.Now.Round,lD 4 x.Now.Slots d0.c,lD 6 x.Now.Bids i0.c,lD 4 x.Now.Heard c9.c,lD 5 x.Now.Leases c0.c,lD 6 x.Now.Loans d7.c,DI x.Safe.Round,lD 4 x.Safe.Slots d0.c,lD 6 x.Safe.Bids i0.c,lD 4 x.Safe.Heard c9.c,lD 5 x.Safe.Leases c0.c,lD 6 x.Safe.Loans d7.c]
structure b9 where
 Kind:Int
 From:Int
 To:Int
 Night:Int
 Ballot:Int
 Best:Int
 Value:Int
 No:Int
 Thing:Int
 Start:Int
 Until:Int
 deriving DecidableEq,Inhabited
abbrev b9.c (x:b9):List D:= [DI x.Kind,DI x.From,DI x.To,DI x.Night,DI x.Ballot,DI x.Best,DI x.Value,DI x.No,DI x.Thing,DI x.Start,DI x.Until]
structure b1g where
 Thing:Int
 To:Int
 From:Int
 Until:Int
 deriving DecidableEq,Inhabited
abbrev b1g.c (x:b1g):List D:= [DI x.Thing,DI x.To,DI x.From,DI x.Until]
structure c5x where
 Night:Int
 Value:Int
 Deal:b1g
 Loan:(Int×Int×Int)
 deriving DecidableEq,Inhabited
abbrev c5x.c (x:c5x):List D:= [DI x.Night,DI x.Value,DI x.Deal.Thing,DI x.Deal.To,DI x.Deal.From,DI x.Deal.Until,DI x.Loan.1,DI x.Loan.2.1,DI x.Loan.2.2]
structure a1A where
 Kind:Int
 Depot:Int
 Night:Int
 Value:Int
 Thing:Int
 To:Int
 From:Int
 Long:Int
 Pick:Int
 deriving DecidableEq,Inhabited
abbrev a1A.c (x:a1A):List D:= [DI x.Kind,DI x.Depot,DI x.Night,DI x.Value,DI x.Thing,DI x.To,DI x.From,DI x.Long,DI x.Pick]
structure c4Z where
 All:(a8×a8×a8×a8×a8×a8)
 Calls:(List b9)
 deriving DecidableEq,Inhabited
abbrev c4Z.c (x:c4Z):List D:= [DI x.All.1.Me,DI x.All.1.Now.Round,lD 4 x.All.1.Now.Slots d0.c,lD 6 x.All.1.Now.Bids i0.c,lD 4 x.All.1.Now.Heard c9.c,lD 5 x.All.1.Now.Leases c0.c,lD 6 x.All.1.Now.Loans d7.c,DI x.All.1.Safe.Round,lD 4 x.All.1.Safe.Slots d0.c,lD 6 x.All.1.Safe.Bids i0.c,lD 4 x.All.1.Safe.Heard c9.c,lD 5 x.All.1.Safe.Leases c0.c,lD 6 x.All.1.Safe.Loans d7.c,DI x.All.2.1.Me,DI x.All.2.1.Now.Round,lD 4 x.All.2.1.Now.Slots d0.c,lD 6 x.All.2.1.Now.Bids i0.c,lD 4 x.All.2.1.Now.Heard c9.c,lD 5 x.All.2.1.Now.Leases c0.c,lD 6 x.All.2.1.Now.Loans d7.c,DI x.All.2.1.Safe.Round,lD 4 x.All.2.1.Safe.Slots d0.c,lD 6 x.All.2.1.Safe.Bids i0.c,lD 4 x.All.2.1.Safe.Heard c9.c,lD 5 x.All.2.1.Safe.Leases c0.c,lD 6 x.All.2.1.Safe.Loans d7.c,DI x.All.2.2.1.Me,DI x.All.2.2.1.Now.Round,lD 4 x.All.2.2.1.Now.Slots d0.c,lD 6 x.All.2.2.1.Now.Bids i0.c,lD 4 x.All.2.2.1.Now.Heard c9.c,lD 5 x.All.2.2.1.Now.Leases c0.c,lD 6 x.All.2.2.1.Now.Loans d7.c,DI x.All.2.2.1.Safe.Round,lD 4 x.All.2.2.1.Safe.Slots d0.c,lD 6 x.All.2.2.1.Safe.Bids i0.c,lD 4 x.All.2.2.1.Safe.Heard c9.c,lD 5 x.All.2.2.1.Safe.Leases c0.c,lD 6 x.All.2.2.1.Safe.Loans d7.c,DI x.All.2.2.2.1.Me,DI x.All.2.2.2.1.Now.Round,lD 4 x.All.2.2.2.1.Now.Slots d0.c,lD 6 x.All.2.2.2.1.Now.Bids i0.c,lD 4 x.All.2.2.2.1.Now.Heard c9.c,lD 5 x.All.2.2.2.1.Now.Leases c0.c,lD 6 x.All.2.2.2.1.Now.Loans d7.c,DI x.All.2.2.2.1.Safe.Round,lD 4 x.All.2.2.2.1.Safe.Slots d0.c,lD 6 x.All.2.2.2.1.Safe.Bids i0.c,lD 4 x.All.2.2.2.1.Safe.Heard c9.c,lD 5 x.All.2.2.2.1.Safe.Leases c0.c,lD 6 x.All.2.2.2.1.Safe.Loans d7.c,DI x.All.2.2.2.2.1.Me,DI x.All.2.2.2.2.1.Now.Round,lD 4 x.All.2.2.2.2.1.Now.Slots d0.c,lD 6 x.All.2.2.2.2.1.Now.Bids i0.c,lD 4 x.All.2.2.2.2.1.Now.Heard c9.c,lD 5 x.All.2.2.2.2.1.Now.Leases c0.c,lD 6 x.All.2.2.2.2.1.Now.Loans d7.c,DI x.All.2.2.2.2.1.Safe.Round,lD 4 x.All.2.2.2.2.1.Safe.Slots d0.c,lD 6 x.All.2.2.2.2.1.Safe.Bids i0.c,lD 4 x.All.2.2.2.2.1.Safe.Heard c9.c,lD 5 x.All.2.2.2.2.1.Safe.Leases c0.c,lD 6 x.All.2.2.2.2.1.Safe.Loans d7.c,DI x.All.2.2.2.2.2.Me,DI x.All.2.2.2.2.2.Now.Round,lD 4 x.All.2.2.2.2.2.Now.Slots d0.c,lD 6 x.All.2.2.2.2.2.Now.Bids i0.c,lD 4 x.All.2.2.2.2.2.Now.Heard c9.c,lD 5 x.All.2.2.2.2.2.Now.Leases c0.c,lD 6 x.All.2.2.2.2.2.Now.Loans d7.c,DI x.All.2.2.2.2.2.Safe.Round,lD 4 x.All.2.2.2.2.2.Safe.Slots d0.c,lD 6 x.All.2.2.2.2.2.Safe.Bids i0.c,lD 4 x.All.2.2.2.2.2.Safe.Heard c9.c,lD 5 x.All.2.2.2.2.2.Safe.Leases c0.c,lD 6 x.All.2.2.2.2.2.Safe.Loans d7.c,lD 11 x.Calls b9.c]
structure i4 where
 all:(List a8)
 calls:(List b9)
 told:(Int×Int×Int)
 deriving DecidableEq,Inhabited
abbrev i4.c (x:i4):List D:= [lD 13 x.all a8.c,lD 11 x.calls b9.c,DI x.told.1,DI x.told.2.1,DI x.told.2.2]
structure l8 where
 Station:a8
 deriving DecidableEq,Inhabited
abbrev l8.c (x:l8):List D:= [DI x.Station.Me,DI x.Station.Now.Round,lD 4 x.Station.Now.Slots d0.c,lD 6 x.Station.Now.Bids i0.c,lD 4 x.Station.Now.Heard c9.c,lD 5 x.Station.Now.Leases c0.c,lD 6 x.Station.Now.Loans d7.c,DI x.Station.Safe.Round,lD 4 x.Station.Safe.Slots d0.c,lD 6 x.Station.Safe.Bids i0.c,lD 4 x.Station.Safe.Heard c9.c,lD 5 x.Station.Safe.Leases c0.c,lD 6 x.Station.Safe.Loans d7.c]
abbrev cf1:(Option l8)→List D:=fun(x:(Option l8))=> [c5Q l8.c x]
theorem zy {f:FuncId} {fn:Func} {c:Code} {args:List D} {Q:D→Prop} (pl:List (Nat×PT)) (ln un inl:List Nat) (hf:Tryz.prog.funcs[f]?=some fn) (hb:fn.body=some c) (h:P5 ⟨Tryz.prog,tt,fn.ntmps,pl,ln,un, [],inl, []⟩ c ⟨a2x 0 args, [],0⟩ (b9l ⟨Tryz.prog,tt,fn.ntmps,pl,ln,un, [],inl, []⟩ fn.results.toList Q)) (hl:args.length≤fn.ntmps:=by exact Nat.le_of_ble_eq_true rfl) (hg:fn.ntmps≤P0:=by exact Nat.le_of_ble_eq_true rfl):k9 Tryz.prog f args Q:=
 c2B (X:=⟨Tryz.prog,tt,fn.ntmps,pl,ln,un, [],inl, []⟩) pok args hf hb rfl hl h rfl hg
theorem zn {f:FuncId} {fn:Func} {c:Code} {args:List D} {Q:D→Prop} (hf:Tryz.prog.funcs[f]?=some fn) (hb:fn.body=some c) (h:P5 ⟨Tryz.prog,tt,fn.ntmps, [], [], [], [], [], []⟩ c ⟨a2x 0 args, [],0⟩ (b9l ⟨Tryz.prog,tt,fn.ntmps, [], [], [], [], [], []⟩ fn.results.toList Q)) (hl:args.length≤fn.ntmps:=by exact Nat.le_of_ble_eq_true rfl) (hg:fn.ntmps≤P0:=by exact Nat.le_of_ble_eq_true rfl):k9 Tryz.prog f args Q:=zy [] [] [] [] hf hb h hl hg
abbrev nS:D:= .v (.slice none 0 0)
end Go.Proofs.YtcedmbakcchkiaaGreatDoor
