/- Structs of the program, as Lean structures. -/
import Derived.Test.YtcedmbakcchkiaaGreatDoorC1
set_option linter.unusedVariables false
set_option linter.unusedSimpArgs false
namespace Go.Proofs.YtcedmbakcchkiaaGreatDoor
open Go Go.RowKit Go.Sx
set_option maxRecDepth 100000
set_option maxHeartbeats 20000000
abbrev W (z:Int):Int:=IntKind.i64.wrap z
structure a6Y where
 x:Int
 y:Int
 signed:Bool
 code:Int
 deriving DecidableEq,Inhabited
abbrev a6Y.c (x:a6Y):List D:= [DI x.x,DI x.y,DB x.signed, .v (.int .u8 x.code)]
structure a1Q where
 msg:ByteArray
 addr:Int
 deriving DecidableEq,Inhabited
abbrev a1Q.c (x:a1Q):List D:= [.v (.string x.msg), .v (.int .u64 x.addr)]
structure b7 where
 Night:Int
 Promised:Int
 Ballot:Int
 Value:Int
 deriving DecidableEq,Inhabited
abbrev b7.c (x:b7):List D:= [DI x.Night,DI x.Promised,DI x.Ballot,DI x.Value]
structure c3 where
 Night:Int
 Ballot:Int
 Value:Int
 Best:Int
 Mask:Int
 Asked:Bool
 deriving DecidableEq,Inhabited
abbrev c3.c (x:c3):List D:= [DI x.Night,DI x.Ballot,DI x.Value,DI x.Best,DI x.Mask,DB x.Asked]
structure a8 where
 Night:Int
 Ballot:Int
 Value:Int
 Mask:Int
 deriving DecidableEq,Inhabited
abbrev a8.c (x:a8):List D:= [DI x.Night,DI x.Ballot,DI x.Value,DI x.Mask]
structure a7 where
 No:Int
 Thing:Int
 To:Int
 From:Int
 Until:Int
 deriving DecidableEq,Inhabited
abbrev a7.c (x:a7):List D:= [DI x.No,DI x.Thing,DI x.To,DI x.From,DI x.Until]
structure b8 where
 Owner:Int
 No:Int
 Thing:Int
 From:Int
 Until:Int
 Back:Bool
 deriving DecidableEq,Inhabited
abbrev b8.c (x:b8):List D:= [DI x.Owner,DI x.No,DI x.Thing,DI x.From,DI x.Until,DB x.Back]
structure b6 where
 Round:Int
 Slots:(List b7)
 Bids:(List c3)
 Heard:(List a8)
 Leases:(List a7)
 Loans:(List b8)
 deriving DecidableEq,Inhabited
abbrev b6.c (x:b6):List D:= [DI x.Round,lD 4 x.Slots b7.c,lD 6 x.Bids c3.c,lD 4 x.Heard a8.c,lD 5 x.Leases a7.c,lD 6 x.Loans b8.c]
structure a6 where
 Me:Int
 Now:b6
 Safe:b6
 deriving DecidableEq,Inhabited
abbrev a6.c (x:a6):List D:= [DI x.Me,DI x.Now.Round,lD 4 x.Now.Slots b7.c,lD 6 x.Now.Bids c3.c,lD 4 x.Now.Heard a8.c,lD 5 x.Now.Leases a7.c,lD 6 x.Now.Loans b8.c,DI x.Safe.Round,lD 4 x.Safe.Slots b7.c,lD 6 x.Safe.Bids c3.c,lD 4 x.Safe.Heard a8.c,lD 5 x.Safe.Leases a7.c,lD 6 x.Safe.Loans b8.c]
structure b5 where
 Kind:Int
 From:Int
 To:Int
 Night:Int
 Ballot:Int
 Best:Int
 Value:Int
 No:Int
 Thing:Int
 Start:Int
 Until:Int
 deriving DecidableEq,Inhabited
abbrev b5.c (x:b5):List D:= [DI x.Kind,DI x.From,DI x.To,DI x.Night,DI x.Ballot,DI x.Best,DI x.Value,DI x.No,DI x.Thing,DI x.Start,DI x.Until]
structure a6o where
 Thing:Int
 To:Int
 From:Int
 Until:Int
 deriving DecidableEq,Inhabited
abbrev a6o.c (x:a6o):List D:= [DI x.Thing,DI x.To,DI x.From,DI x.Until]
structure c2c where
 Night:Int
 Value:Int
 Deal:a6o
 Loan:(Int×Int×Int)
 deriving DecidableEq,Inhabited
abbrev c2c.c (x:c2c):List D:= [DI x.Night,DI x.Value,DI x.Deal.Thing,DI x.Deal.To,DI x.Deal.From,DI x.Deal.Until,DI x.Loan.1,DI x.Loan.2.1,DI x.Loan.2.2]
structure a0j where
 Kind:Int
 Depot:Int
 Night:Int
 Value:Int
 Thing:Int
 To:Int
 From:Int
 Long:Int
 Pick:Int
 deriving DecidableEq,Inhabited
abbrev a0j.c (x:a0j):List D:= [DI x.Kind,DI x.Depot,DI x.Night,DI x.Value,DI x.Thing,DI x.To,DI x.From,DI x.Long,DI x.Pick]
structure c3j where
 All:(a6×a6×a6×a6×a6×a6)
 Calls:(List b5)
 deriving DecidableEq,Inhabited
abbrev c3j.c (x:c3j):List D:= [DI x.All.1.Me,DI x.All.1.Now.Round,lD 4 x.All.1.Now.Slots b7.c,lD 6 x.All.1.Now.Bids c3.c,lD 4 x.All.1.Now.Heard a8.c,lD 5 x.All.1.Now.Leases a7.c,lD 6 x.All.1.Now.Loans b8.c,DI x.All.1.Safe.Round,lD 4 x.All.1.Safe.Slots b7.c,lD 6 x.All.1.Safe.Bids c3.c,lD 4 x.All.1.Safe.Heard a8.c,lD 5 x.All.1.Safe.Leases a7.c,lD 6 x.All.1.Safe.Loans b8.c,DI x.All.2.1.Me,DI x.All.2.1.Now.Round,lD 4 x.All.2.1.Now.Slots b7.c,lD 6 x.All.2.1.Now.Bids c3.c,lD 4 x.All.2.1.Now.Heard a8.c,lD 5 x.All.2.1.Now.Leases a7.c,lD 6 x.All.2.1.Now.Loans b8.c,DI x.All.2.1.Safe.Round,lD 4 x.All.2.1.Safe.Slots b7.c,lD 6 x.All.2.1.Safe.Bids c3.c,lD 4 x.All.2.1.Safe.Heard a8.c,lD 5 x.All.2.1.Safe.Leases a7.c,lD 6 x.All.2.1.Safe.Loans b8.c,DI x.All.2.2.1.Me,DI x.All.2.2.1.Now.Round,lD 4 x.All.2.2.1.Now.Slots b7.c,lD 6 x.All.2.2.1.Now.Bids c3.c,lD 4 x.All.2.2.1.Now.Heard a8.c,lD 5 x.All.2.2.1.Now.Leases a7.c,lD 6 x.All.2.2.1.Now.Loans b8.c,DI x.All.2.2.1.Safe.Round,lD 4 x.All.2.2.1.Safe.Slots b7.c,lD 6 x.All.2.2.1.Safe.Bids c3.c,lD 4 x.All.2.2.1.Safe.Heard a8.c,lD 5 x.All.2.2.1.Safe.Leases a7.c,lD 6 x.All.2.2.1.Safe.Loans b8.c,DI x.All.2.2.2.1.Me,DI x.All.2.2.2.1.Now.Round,lD 4 x.All.2.2.2.1.Now.Slots b7.c,lD 6 x.All.2.2.2.1.Now.Bids c3.c,lD 4 x.All.2.2.2.1.Now.Heard a8.c,lD 5 x.All.2.2.2.1.Now.Leases a7.c,lD 6 x.All.2.2.2.1.Now.Loans b8.c,DI x.All.2.2.2.1.Safe.Round,lD 4 x.All.2.2.2.1.Safe.Slots b7.c,lD 6 x.All.2.2.2.1.Safe.Bids c3.c,lD 4 x.All.2.2.2.1.Safe.Heard a8.c,lD 5 x.All.2.2.2.1.Safe.Leases a7.c,lD 6 x.All.2.2.2.1.Safe.Loans b8.c,DI x.All.2.2.2.2.1.Me,DI x.All.2.2.2.2.1.Now.Round,lD 4 x.All.2.2.2.2.1.Now.Slots b7.c,lD 6 x.All.2.2.2.2.1.Now.Bids c3.c,lD 4 x.All.2.2.2.2.1.Now.Heard a8.c,lD 5 x.All.2.2.2.2.1.Now.Leases a7.c,lD 6 x.All.2.2.2.2.1.Now.Loans b8.c,DI x.All.2.2.2.2.1.Safe.Round,lD 4 x.All.2.2.2.2.1.Safe.Slots b7.c,lD 6 x.All.2.2.2.2.1.Safe.Bids c3.c,lD 4 x.All.2.2.2.2.1.Safe.Heard a8.c,lD 5 x.All.2.2.2.2.1.Safe.Leases a7.c,lD 6 x.All.2.2.2.2.1.Safe.Loans b8.c,DI x.All.2.2.2.2.2.Me,DI x.All.2.2.2.2.2.Now.Round,lD 4 x.All.2.2.2.2.2.Now.Slots b7.c,lD 6 x.All.2.2.2.2.2.Now.Bids c3.c,lD 4 x.All.2.2.2.2.2.Now.Heard a8.c,lD 5 x.All.2.2.2.2.2.Now.Leases a7.c,lD 6 x.All.2.2.2.2.2.Now.Loans b8.c,DI x.All.2.2.2.2.2.Safe.Round,lD 4 x.All.2.2.2.2.2.Safe.Slots b7.c,lD 6 x.All.2.2.2.2.2.Safe.Bids c3.c,lD 4 x.All.2.2.2.2.2.Safe.Heard a8.c,lD 5 x.All.2.2.2.2.2.Safe.Leases a7.c,lD 6 x.All.2.2.2.2.2.Safe.Loans b8.c,lD 11 x.Calls b5.c]
structure b8g where
 all:(List a6)
 calls:(List b5)
 told:(Int×Int×Int)
 deriving DecidableEq,Inhabited
abbrev b8g.c (x:b8g):List D:= [lD 13 x.all a6.c,lD 11 x.calls b5.c,DI x.told.1,DI x.told.2.1,DI x.told.2.2]
structure F3 where
 Station:a6
 deriving DecidableEq,Inhabited
abbrev F3.c (x:F3):List D:= [DI x.Station.Me,DI x.Station.Now.Round,lD 4 x.Station.Now.Slots b7.c,lD 6 x.Station.Now.Bids c3.c,lD 4 x.Station.Now.Heard a8.c,lD 5 x.Station.Now.Leases a7.c,lD 6 x.Station.Now.Loans b8.c,DI x.Station.Safe.Round,lD 4 x.Station.Safe.Slots b7.c,lD 6 x.Station.Safe.Bids c3.c,lD 4 x.Station.Safe.Heard a8.c,lD 5 x.Station.Safe.Leases a7.c,lD 6 x.Station.Safe.Loans b8.c]
abbrev cf1:(Option F3)→List D:=fun(x:(Option F3))=> [c1I F3.c x]
theorem zy {f:FuncId} {fn:Func} {c:Code} {args:List D} {Q:D→Prop} (pl:List (Nat×PT)) (ln un inl:List Nat) (hf:Tryz.prog.funcs[f]?=some fn) (hb:fn.body=some c) (h:L0 ⟨Tryz.prog,tt,fn.ntmps,pl,ln,un, [],inl, []⟩ c ⟨a1d 0 args, [],0⟩ (b6w ⟨Tryz.prog,tt,fn.ntmps,pl,ln,un, [],inl, []⟩ fn.results.toList Q)) (hl:args.length≤fn.ntmps:=by exact Nat.le_of_ble_eq_true rfl) (hg:fn.ntmps≤K4:=by exact Nat.le_of_ble_eq_true rfl):i4 Tryz.prog f args Q:=
 b9Q (X:=⟨Tryz.prog,tt,fn.ntmps,pl,ln,un, [],inl, []⟩) pok args hf hb rfl hl h rfl hg
theorem zn {f:FuncId} {fn:Func} {c:Code} {args:List D} {Q:D→Prop} (hf:Tryz.prog.funcs[f]?=some fn) (hb:fn.body=some c) (h:L0 ⟨Tryz.prog,tt,fn.ntmps, [], [], [], [], [], []⟩ c ⟨a1d 0 args, [],0⟩ (b6w ⟨Tryz.prog,tt,fn.ntmps, [], [], [], [], [], []⟩ fn.results.toList Q)) (hl:args.length≤fn.ntmps:=by exact Nat.le_of_ble_eq_true rfl) (hg:fn.ntmps≤K4:=by exact Nat.le_of_ble_eq_true rfl):i4 Tryz.prog f args Q:=zy [] [] [] [] hf hb h hl hg
abbrev nS:D:= .v (.slice none 0 0)
end Go.Proofs.YtcedmbakcchkiaaGreatDoor
