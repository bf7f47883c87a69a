/- Structs of the program, as Lean structures. -/
import Derived.Test.YtlngjieodaocfaaGreatDoorC1
set_option linter.unusedVariables false
set_option linter.unusedSimpArgs false
namespace Go.Proofs.YtlngjieodaocfaaGreatDoor
open Go Go.RowKit Go.Sx
set_option maxRecDepth 100000
set_option maxHeartbeats 20000000
abbrev W (z:Int):Int:=IntKind.i64.wrap z
structure a9U where
 x:Int
 y:Int
 signed:Bool
 code:Int
 deriving DecidableEq,Inhabited
abbrev a9U.c (x:a9U):List D:= [DI x.x,DI x.y,DB x.signed, .v (.int .u8 x.code)]
structure a3T where
 msg:ByteArray
 addr:Int
 deriving DecidableEq,Inhabited
abbrev a3T.c (x:a3T):List D:= [.v (.string x.msg), .v (.int .u64 x.addr)]
structure b5 where
 Kind:Int
 From:Int
 To:Int
 Night:Int
 Ballot:Int
 Best:Int
 Value:Int
 No:Int
 Thing:Int
 Start:Int
 Until:Int
 deriving DecidableEq,Inhabited
abbrev b5.c (x:b5):List D:= [DI x.Kind,DI x.From,DI x.To,DI x.Night,DI x.Ballot,DI x.Best,DI x.Value,DI x.No,DI x.Thing,DI x.Start,DI x.Until]
structure a2Z where
 Thing:Int
 To:Int
 From:Int
 Until:Int
 deriving DecidableEq,Inhabited
abbrev a2Z.c (x:a2Z):List D:= [DI x.Thing,DI x.To,DI x.From,DI x.Until]
structure a7X where
 Night:Int
 Value:Int
 Deal:a2Z
 Loan:(Int×Int×Int)
 deriving DecidableEq,Inhabited
abbrev a7X.c (x:a7X):List D:= [DI x.Night,DI x.Value,DI x.Deal.Thing,DI x.Deal.To,DI x.Deal.From,DI x.Deal.Until,DI x.Loan.1,DI x.Loan.2.1,DI x.Loan.2.2]
structure a8 where
 Night:Int
 Promised:Int
 Ballot:Int
 Value:Int
 deriving DecidableEq,Inhabited
abbrev a8.c (x:a8):List D:= [DI x.Night,DI x.Promised,DI x.Ballot,DI x.Value]
structure c0 where
 Night:Int
 Ballot:Int
 Value:Int
 Best:Int
 Mask:Int
 Asked:Bool
 deriving DecidableEq,Inhabited
abbrev c0.c (x:c0):List D:= [DI x.Night,DI x.Ballot,DI x.Value,DI x.Best,DI x.Mask,DB x.Asked]
structure a7 where
 Night:Int
 Ballot:Int
 Value:Int
 Mask:Int
 deriving DecidableEq,Inhabited
abbrev a7.c (x:a7):List D:= [DI x.Night,DI x.Ballot,DI x.Value,DI x.Mask]
structure b8 where
 No:Int
 Thing:Int
 To:Int
 From:Int
 Until:Int
 deriving DecidableEq,Inhabited
abbrev b8.c (x:b8):List D:= [DI x.No,DI x.Thing,DI x.To,DI x.From,DI x.Until]
structure b6 where
 Owner:Int
 No:Int
 Thing:Int
 From:Int
 Until:Int
 Back:Bool
 deriving DecidableEq,Inhabited
abbrev b6.c (x:b6):List D:= [DI x.Owner,DI x.No,DI x.Thing,DI x.From,DI x.Until,DB x.Back]
structure b7 where
 Round:Int
 Slots:(List a8)
 Bids:(List c0)
 Heard:(List a7)
 Leases:(List b8)
 Loans:(List b6)
 deriving DecidableEq,Inhabited
abbrev b7.c (x:b7):List D:= [DI x.Round,lD 4 x.Slots a8.c,lD 6 x.Bids c0.c,lD 4 x.Heard a7.c,lD 5 x.Leases b8.c,lD 6 x.Loans b6.c]
structure a6 where
 Me:Int
 Now:b7
 Safe:b7
 deriving DecidableEq,Inhabited
abbrev a6.c (x:a6):List D:= [DI x.Me,DI x.Now.Round,lD 4 x.Now.Slots a8.c,lD 6 x.Now.Bids c0.c,lD 4 x.Now.Heard a7.c,lD 5 x.Now.Leases b8.c,lD 6 x.Now.Loans b6.c,DI x.Safe.Round,lD 4 x.Safe.Slots a8.c,lD 6 x.Safe.Bids c0.c,lD 4 x.Safe.Heard a7.c,lD 5 x.Safe.Leases b8.c,lD 6 x.Safe.Loans b6.c]
structure a0M where
 All:(a6×a6×a6×a6×a6×a6)
 Calls:(List b5)
 deriving DecidableEq,Inhabited
abbrev a0M.c (x:a0M):List D:= [DI x.All.1.Me,DI x.All.1.Now.Round,lD 4 x.All.1.Now.Slots a8.c,lD 6 x.All.1.Now.Bids c0.c,lD 4 x.All.1.Now.Heard a7.c,lD 5 x.All.1.Now.Leases b8.c,lD 6 x.All.1.Now.Loans b6.c,DI x.All.1.Safe.Round,lD 4 x.All.1.Safe.Slots a8.c,lD 6 x.All.1.Safe.Bids c0.c,lD 4 x.All.1.Safe.Heard a7.c,lD 5 x.All.1.Safe.Leases b8.c,lD 6 x.All.1.Safe.Loans b6.c,DI x.All.2.1.Me,DI x.All.2.1.Now.Round,lD 4 x.All.2.1.Now.Slots a8.c,lD 6 x.All.2.1.Now.Bids c0.c,lD 4 x.All.2.1.Now.Heard a7.c,lD 5 x.All.2.1.Now.Leases b8.c,lD 6 x.All.2.1.Now.Loans b6.c,DI x.All.2.1.Safe.Round,lD 4 x.All.2.1.Safe.Slots a8.c,lD 6 x.All.2.1.Safe.Bids c0.c,lD 4 x.All.2.1.Safe.Heard a7.c,lD 5 x.All.2.1.Safe.Leases b8.c,lD 6 x.All.2.1.Safe.Loans b6.c,DI x.All.2.2.1.Me,DI x.All.2.2.1.Now.Round,lD 4 x.All.2.2.1.Now.Slots a8.c,lD 6 x.All.2.2.1.Now.Bids c0.c,lD 4 x.All.2.2.1.Now.Heard a7.c,lD 5 x.All.2.2.1.Now.Leases b8.c,lD 6 x.All.2.2.1.Now.Loans b6.c,DI x.All.2.2.1.Safe.Round,lD 4 x.All.2.2.1.Safe.Slots a8.c,lD 6 x.All.2.2.1.Safe.Bids c0.c,lD 4 x.All.2.2.1.Safe.Heard a7.c,lD 5 x.All.2.2.1.Safe.Leases b8.c,lD 6 x.All.2.2.1.Safe.Loans b6.c,DI x.All.2.2.2.1.Me,DI x.All.2.2.2.1.Now.Round,lD 4 x.All.2.2.2.1.Now.Slots a8.c,lD 6 x.All.2.2.2.1.Now.Bids c0.c,lD 4 x.All.2.2.2.1.Now.Heard a7.c,lD 5 x.All.2.2.2.1.Now.Leases b8.c,lD 6 x.All.2.2.2.1.Now.Loans b6.c,DI x.All.2.2.2.1.Safe.Round,lD 4 x.All.2.2.2.1.Safe.Slots a8.c,lD 6 x.All.2.2.2.1.Safe.Bids c0.c,lD 4 x.All.2.2.2.1.Safe.Heard a7.c,lD 5 x.All.2.2.2.1.Safe.Leases b8.c,lD 6 x.All.2.2.2.1.Safe.Loans b6.c,DI x.All.2.2.2.2.1.Me,DI x.All.2.2.2.2.1.Now.Round,lD 4 x.All.2.2.2.2.1.Now.Slots a8.c,lD 6 x.All.2.2.2.2.1.Now.Bids c0.c,lD 4 x.All.2.2.2.2.1.Now.Heard a7.c,lD 5 x.All.2.2.2.2.1.Now.Leases b8.c,lD 6 x.All.2.2.2.2.1.Now.Loans b6.c,DI x.All.2.2.2.2.1.Safe.Round,lD 4 x.All.2.2.2.2.1.Safe.Slots a8.c,lD 6 x.All.2.2.2.2.1.Safe.Bids c0.c,lD 4 x.All.2.2.2.2.1.Safe.Heard a7.c,lD 5 x.All.2.2.2.2.1.Safe.Leases b8.c,lD 6 x.All.2.2.2.2.1.Safe.Loans b6.c,DI x.All.2.2.2.2.2.Me,DI x.All.2.2.2.2.2.Now.Round,lD 4 x.All.2.2.2.2.2.Now.Slots a8.c,lD 6 x.All.2.2.2.2.2.Now.Bids c0.c,lD 4 x.All.2.2.2.2.2.Now.Heard a7.c,lD 5 x.All.2.2.2.2.2.Now.Leases b8.c,lD 6 x.All.2.2.2.2.2.Now.Loans b6.c,DI x.All.2.2.2.2.2.Safe.Round,lD 4 x.All.2.2.2.2.2.Safe.Slots a8.c,lD 6 x.All.2.2.2.2.2.Safe.Bids c0.c,lD 4 x.All.2.2.2.2.2.Safe.Heard a7.c,lD 5 x.All.2.2.2.2.2.Safe.Leases b8.c,lD 6 x.All.2.2.2.2.2.Safe.Loans b6.c,lD 11 x.Calls b5.c]
structure U6 where
 Kind:Int
 Depot:Int
 Night:Int
 Value:Int
 Thing:Int
 To:Int
 From:Int
 Long:Int
 Pick:Int
 deriving DecidableEq,Inhabited
abbrev U6.c (x:U6):List D:= [DI x.Kind,DI x.Depot,DI x.Night,DI x.Value,DI x.Thing,DI x.To,DI x.From,DI x.Long,DI x.Pick]
structure K6 where
 Station:a6
 deriving DecidableEq,Inhabited
abbrev K6.c (x:K6):List D:= [DI x.Station.Me,DI x.Station.Now.Round,lD 4 x.Station.Now.Slots a8.c,lD 6 x.Station.Now.Bids c0.c,lD 4 x.Station.Now.Heard a7.c,lD 5 x.Station.Now.Leases b8.c,lD 6 x.Station.Now.Loans b6.c,DI x.Station.Safe.Round,lD 4 x.Station.Safe.Slots a8.c,lD 6 x.Station.Safe.Bids c0.c,lD 4 x.Station.Safe.Heard a7.c,lD 5 x.Station.Safe.Leases b8.c,lD 6 x.Station.Safe.Loans b6.c]
theorem le1 {a1 a2 a3 a4:D} {z1 z2 z3 z4 z5 z6 z7 z8 z9 z10:Nat}:leD (.tup [.agg [a1,a2, .v (.slice none 0 0), .v (.slice none 0 0), .v (.slice none 0 0), .v (.slice none 0 0), .v (.slice none 0 0),a3, .v (.slice none 0 0), .v (.slice none 0 0), .v (.slice none 0 0), .v (.slice none 0 0), .v (.slice none 0 0)],a4]) (.tup [.agg [a1,a2, .lst z1 0 [], .lst z2 0 [], .lst z3 0 [], .lst z4 0 [], .lst z5 0 [],a3, .lst z6 0 [], .lst z7 0 [], .lst z8 0 [], .lst z9 0 [], .lst z10 0 []],a4]):=⟨_,rfl,⟨⟨_,rfl,⟨c9h _,c9h _,c9i,c9i,c9i,c9i,c9i,c9h _,c9i,c9i,c9i,c9i,c9i,trivial⟩⟩,c9h _,trivial⟩⟩
theorem le2 {a1:D} {z1:Nat}:leD (.tup [.v (.slice none 0 0),a1]) (.tup [.lst z1 0 [],a1]):=⟨_,rfl,⟨c9i,c9h _,trivial⟩⟩
theorem zy {f:FuncId} {fn:Func} {c:Code} {args:List D} {Q:D→Prop} (pl:List (Nat×PT)) (ln un inl:List Nat) (hf:Tryz.prog.funcs[f]?=some fn) (hb:fn.body=some c) (h:O7 ⟨Tryz.prog,tt,fn.ntmps,pl,ln,un, [],inl, []⟩ c ⟨a2z 0 args, [],0⟩ (b9z ⟨Tryz.prog,tt,fn.ntmps,pl,ln,un, [],inl, []⟩ fn.results.toList Q)) (hl:args.length≤fn.ntmps:=by exact Nat.le_of_ble_eq_true rfl) (hg:fn.ntmps≤N8:=by exact Nat.le_of_ble_eq_true rfl):d7 Tryz.prog f args Q:=
 c4s (X:=⟨Tryz.prog,tt,fn.ntmps,pl,ln,un, [],inl, []⟩) pok args hf hb rfl hl h rfl hg
theorem zn {f:FuncId} {fn:Func} {c:Code} {args:List D} {Q:D→Prop} (hf:Tryz.prog.funcs[f]?=some fn) (hb:fn.body=some c) (h:O7 ⟨Tryz.prog,tt,fn.ntmps, [], [], [], [], [], []⟩ c ⟨a2z 0 args, [],0⟩ (b9z ⟨Tryz.prog,tt,fn.ntmps, [], [], [], [], [], []⟩ fn.results.toList Q)) (hl:args.length≤fn.ntmps:=by exact Nat.le_of_ble_eq_true rfl) (hg:fn.ntmps≤N8:=by exact Nat.le_of_ble_eq_true rfl):d7 Tryz.prog f args Q:=zy [] [] [] [] hf hb h hl hg
abbrev nS:D:= .v (.slice none 0 0)
end Go.Proofs.YtlngjieodaocfaaGreatDoor
