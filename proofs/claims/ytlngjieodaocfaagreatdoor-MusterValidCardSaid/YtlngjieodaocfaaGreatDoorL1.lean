/- Functions of the program as pure Lean functions, and that calls do what these say. Printed by a program out of the given form. -/
import Derived.Test.YtlngjieodaocfaaGreatDoorL0
set_option linter.unusedVariables false
set_option linter.unusedSimpArgs false
namespace Go.Proofs.YtlngjieodaocfaaGreatDoor
open Go Go.RowKit Go.Sx
set_option maxRecDepth 100000
set_option maxHeartbeats 20000000
def a7A:(Int×a0M)→Option (Sum (Int×a0M) (Int×a0M)):=fun(i10,v11)=>
 if(decide (i10<6))=true then
  gd (0≤i10∧i10<6)<|
  Option.bind (idx [v11.All.1,v11.All.2.1,v11.All.2.2.1,v11.All.2.2.2.1,v11.All.2.2.2.2.1,v11.All.2.2.2.2.2] i10) fun e23=>
  Option.bind (some (⟨i10,e23.Now,e23.Safe⟩:a6)) fun y25=>
  Option.bind (some (if(i10==0)=true then y25 else v11.All.1)) fun q26=>
  Option.bind (some (if(i10==1)=true then y25 else v11.All.2.1)) fun q27=>
  Option.bind (some (if(i10==2)=true then y25 else v11.All.2.2.1)) fun q28=>
  Option.bind (some (if(i10==3)=true then y25 else v11.All.2.2.2.1)) fun q29=>
  Option.bind (some (if(i10==4)=true then y25 else v11.All.2.2.2.2.1)) fun q30=>
  Option.bind (some (if(i10==5)=true then y25 else v11.All.2.2.2.2.2)) fun q31=>
  some (.inl ((W (i10+1)),(⟨(q26,q27,q28,q29,q30,q31),v11.Calls⟩:a0M)))
 else
  some (.inr (i10,v11))
def a5f:Option a0M:=
 Option.bind (j4 a7A (0,(⟨((⟨0,(⟨0, [], [], [], [], []⟩:b7),(⟨0, [], [], [], [], []⟩:b7)⟩:a6),(⟨0,(⟨0, [], [], [], [], []⟩:b7),(⟨0, [], [], [], [], []⟩:b7)⟩:a6),(⟨0,(⟨0, [], [], [], [], []⟩:b7),(⟨0, [], [], [], [], []⟩:b7)⟩:a6),(⟨0,(⟨0, [], [], [], [], []⟩:b7),(⟨0, [], [], [], [], []⟩:b7)⟩:a6),(⟨0,(⟨0, [], [], [], [], []⟩:b7),(⟨0, [], [], [], [], []⟩:b7)⟩:a6),(⟨0,(⟨0, [], [], [], [], []⟩:b7),(⟨0, [], [], [], [], []⟩:b7)⟩:a6)), []⟩:a0M))) fun(i32,v33)=>
 some v33
theorem b8i (r:a0M) (hm:a5f=some r):d7 Tryz.prog 16 [] (fun x=>x= .agg (a0M.c r)):=by
 refine zn Tryz.func16 rfl ?_
 obtain⟨ev34,he,hk35⟩:=b9 hm
 refine c9k a7A (fun(i10,v11)=>⟨[(0, .own 0 0),(1, .own 1 0),(2,DI i10)], [(0, .blk [DI 0,DI 0,nS,nS,nS,nS,nS,DI 0,nS,nS,nS,nS,nS,DI 0,DI 0,nS,nS,nS,nS,nS,DI 0,nS,nS,nS,nS,nS,DI 0,DI 0,nS,nS,nS,nS,nS,DI 0,nS,nS,nS,nS,nS,DI 0,DI 0,nS,nS,nS,nS,nS,DI 0,nS,nS,nS,nS,nS,DI 0,DI 0,nS,nS,nS,nS,nS,DI 0,nS,nS,nS,nS,nS,DI 0,DI 0,nS,nS,nS,nS,nS,DI 0,nS,nS,nS,nS,nS,nS] 42),(1, .blk (a6.c v11.All.1++(a6.c v11.All.2.1++(a6.c v11.All.2.2.1++(a6.c v11.All.2.2.2.1++(a6.c v11.All.2.2.2.2.1++(a6.c v11.All.2.2.2.2.2++ [lD 11 v11.Calls b5.c])))))) 42)],2⟩) (0,(⟨((⟨0,(⟨0, [], [], [], [], []⟩:b7),(⟨0, [], [], [], [], []⟩:b7)⟩:a6),(⟨0,(⟨0, [], [], [], [], []⟩:b7),(⟨0, [], [], [], [], []⟩:b7)⟩:a6),(⟨0,(⟨0, [], [], [], [], []⟩:b7),(⟨0, [], [], [], [], []⟩:b7)⟩:a6),(⟨0,(⟨0, [], [], [], [], []⟩:b7),(⟨0, [], [], [], [], []⟩:b7)⟩:a6),(⟨0,(⟨0, [], [], [], [], []⟩:b7),(⟨0, [], [], [], [], []⟩:b7)⟩:a6),(⟨0,(⟨0, [], [], [], [], []⟩:b7),(⟨0, [], [], [], [], []⟩:b7)⟩:a6)), []⟩:a0M)) (Q0.of 2 rfl (tA rfl) ⟨hR rfl,⟨_,rfl,⟨c9h _,c9h _,c9i,c9i,c9i,c9i,c9i,c9h _,c9i,c9i,c9i,c9i,c9i,c9h _,c9h _,c9i,c9i,c9i,c9i,c9i,c9h _,c9i,c9i,c9i,c9i,c9i,c9h _,c9h _,c9i,c9i,c9i,c9i,c9i,c9h _,c9i,c9i,c9i,c9i,c9i,c9h _,c9h _,c9i,c9i,c9i,c9i,c9i,c9h _,c9i,c9i,c9i,c9i,c9i,c9h _,c9h _,c9i,c9i,c9i,c9i,c9i,c9h _,c9i,c9i,c9i,c9i,c9i,c9h _,c9h _,c9i,c9i,c9i,c9i,c9i,c9h _,c9i,c9i,c9i,c9i,c9i,c9i,trivial⟩⟩,trivial⟩) he ?_
 rintro fu36 ⟨i10,v11⟩ b hm hi37
 apply vb hm<;>intro _ hm
 obtain⟨hg,hm⟩:=c7 hm
 refine⟨hg, ?_⟩
 obtain⟨e39,hx40,hm⟩:=b9 hm
 obtain⟨y41,hy,hm⟩:=b9 hm
 obtain⟨q42,hq0,hm⟩:=b9 hm
 obtain⟨q43,hq1,hm⟩:=b9 hm
 obtain⟨q44,hq2,hm⟩:=b9 hm
 obtain⟨q45,hq3,hm⟩:=b9 hm
 obtain⟨q46,hq4,hm⟩:=b9 hm
 obtain⟨q47,hq5,hm⟩:=b9 hm
 refine⟨(a6.c q42++(a6.c q43++(a6.c q44++(a6.c q45++(a6.c q46++(a6.c q47++ [lD 11 v11.Calls b5.c])))))),stx (y:=y41) (ys:= [q42,q43,q44,q45,q46,q47]) (c:=a6.c) (z:=13) (pre:= []) (post:= [lD 11 v11.Calls b5.c]) (b:=0) (off:=0) (fun _=>rfl) hx40 rfl rfl (by omega) (by cases hy;rfl) rfl (by cases hq0;cases hq1;cases hq2;cases hq3;cases hq4;cases hq5;exact b7w hx40), ?_⟩
 clear hy hq0 hq1 hq2 hq3 hq4 hq5
 cases hm
 exact⟨(_,((W (i10+1)),(⟨(q42,q43,q44,q45,q46,q47),v11.Calls⟩:a0M))),sb 2,hi37,Nat.lt_succ_self _⟩
 cases hm
 cases hi37
 have hm:=hk35
 cases hm
 exact c9j (c9h _)
def w7 (n:Int) (m:Int):Option Int:=
 gd (m≠0)<|
 gd (m≠0)<|
 some ((W ((n.tmod m)+m)).tmod m)
theorem E1 (n:Int) (m:Int) (r:Int) (hm:w7 n m=some r):d7 Tryz.prog 5 [DI n,DI m] (fun x=>x=DI r):=by
 refine zn Tryz.func5 rfl ?_
 obtain⟨hg,hm⟩:=c7 hm
 refine⟨hg, ?_⟩
 obtain⟨hg,hm⟩:=c7 hm
 refine⟨hg, ?_⟩
 exact hm.rr
def C7 (n:Int) (lo:Int) (hi:Int):Option Bool:=
 if(decide (lo≤n))=true then
  some (decide (n≤hi))
 else
  some false
theorem I5 (n:Int) (lo:Int) (hi:Int) (r:Bool) (hm:C7 n lo hi=some r):d7 Tryz.prog 132 [DI n,DI lo,DI hi] (fun x=>x=DB r):=by
 refine zn Tryz.func132 rfl ?_
 apply vb hm<;>intro _ hm
 exact hm.rr
 exact hm.rr
def M0 (n:Int):Option Bool:=
 Option.bind (C7 n 0 5) fun x1=>
 some x1
theorem Q8 (n:Int) (r:Bool) (hm:M0 n=some r):d7 Tryz.prog 84 [DI n] (fun x=>x=DB r):=by
 refine zn Tryz.func84 rfl ?_
 refine cy hm (I5 n 0 5) fun x1 hm=> ?_
 exact hm.rr
def W9 (n:Int):Option Bool:=
 Option.bind (C7 n 0 100000) fun x1=>
 some x1
theorem a1r (n:Int) (r:Bool) (hm:W9 n=some r):d7 Tryz.prog 80 [DI n] (fun x=>x=DB r):=by
 refine zn Tryz.func80 rfl ?_
 refine cy hm (I5 n 0 100000) fun x1 hm=> ?_
 exact hm.rr
def u2 (n:Int):Option Bool:=
 Option.bind (C7 n 1 1000000) fun x1=>
 some x1
theorem w9 (n:Int) (r:Bool) (hm:u2 n=some r):d7 Tryz.prog 81 [DI n] (fun x=>x=DB r):=by
 refine zn Tryz.func81 rfl ?_
 refine cy hm (I5 n 1 1000000) fun x1 hm=> ?_
 exact hm.rr
def Y0 (n:Int):Option Bool:=
 Option.bind (C7 n 6 59999) fun x1=>
 some x1
theorem a2U (n:Int) (r:Bool) (hm:Y0 n=some r):d7 Tryz.prog 134 [DI n] (fun x=>x=DB r):=by
 refine zn Tryz.func134 rfl ?_
 refine cy hm (I5 n 6 59999) fun x1 hm=> ?_
 exact hm.rr
def V3 (l:(List a8)):Int→Option (Sum Int (Sum Int Bool)):=fun i25=>
 if(decide (i25<(l.length:Int)))=true then
  Option.bind (idx l i25) fun e71=>
  Option.bind (W9 e71.Night) fun x73=>
  if(!x73)=true then
   some (.inr (.inr false))
  else
   if(decide (i25>0))=true then
    Option.bind (idx l (W (i25-1))) fun e77=>
    if(decide (e77.Night≥e71.Night))=true then
     some (.inr (.inr false))
    else
     Option.bind (Y0 e71.Promised) fun x80=>
     if(!x80)=true then
      some (.inr (.inr false))
     else
      if(e71.Ballot==0)=true then
       if(!(e71.Value==0))=true then
        Option.bind (C7 e71.Ballot 6 e71.Promised) fun x85=>
        if(!x85)=true then
         some (.inr (.inr false))
        else
         Option.bind (u2 e71.Value) fun x88=>
         if(!x88)=true then
          some (.inr (.inr false))
         else
          some (.inl (W (i25+1)))
       else
        some (.inl (W (i25+1)))
      else
       Option.bind (C7 e71.Ballot 6 e71.Promised) fun x91=>
       if(!x91)=true then
        some (.inr (.inr false))
       else
        Option.bind (u2 e71.Value) fun x94=>
        if(!x94)=true then
         some (.inr (.inr false))
        else
         some (.inl (W (i25+1)))
   else
    Option.bind (Y0 e71.Promised) fun x97=>
    if(!x97)=true then
     some (.inr (.inr false))
    else
     if(e71.Ballot==0)=true then
      if(!(e71.Value==0))=true then
       Option.bind (C7 e71.Ballot 6 e71.Promised) fun x102=>
       if(!x102)=true then
        some (.inr (.inr false))
       else
        Option.bind (u2 e71.Value) fun x105=>
        if(!x105)=true then
         some (.inr (.inr false))
        else
         some (.inl (W (i25+1)))
      else
       some (.inl (W (i25+1)))
     else
      Option.bind (C7 e71.Ballot 6 e71.Promised) fun x108=>
      if(!x108)=true then
       some (.inr (.inr false))
      else
       Option.bind (u2 e71.Value) fun x111=>
       if(!x111)=true then
        some (.inr (.inr false))
       else
        some (.inl (W (i25+1)))
 else
  some (.inr (.inl i25))
def a4v (l:(List a8)):Option Bool:=
 if(decide ((l.length:Int)>12))=true then
  some false
 else
  Option.bind (j4 (V3 l) 0) fun e=>
  match e with
  | .inl i114=>
   some true
  | .inr rr115=>
   some rr115
theorem b2A (l:(List a8)) (r:Bool) (hm:a4v l=some r):d7 Tryz.prog 166 [lD 4 l a8.c] (fun x=>x=DB r):=by
 refine zy c6x [] [] [] Tryz.func166 rfl ?_
 apply vb hm<;>intro _ hm
 exact hm.rr
 obtain⟨ev116,he,hk117⟩:=b9 hm
 refine c9k (V3 l) (fun i25=>⟨[(0,lD 4 l a8.c),(3,DI i25)], [],0⟩) 0 (sb 0) he ?_
 rintro fu118 i25 b hm hi119
 apply vb hm<;>intro _ hm
 refine ei hm fun e121 hm=> ?_
 refine⟨rfl, ?_⟩
 refine cy hm (a1r e121.Night) fun x123 hm=> ?_
 apply vb hm<;>intro _ hm
 cases hm
 cases hi119
 have hm:=hk117
 exact hm.rr
 apply vb hm<;>intro _ hm
 refine ei hm fun _ hm=> ?_
 apply vb hm<;>intro _ hm
 cases hm
 cases hi119
 have hm:=hk117
 exact hm.rr
 refine cy hm (a2U e121.Promised) fun x130 hm=> ?_
 apply vb hm<;>intro _ hm
 cases hm
 cases hi119
 have hm:=hk117
 exact hm.rr
 apply vb hm<;>intro _ hm
 apply vb hm<;>intro _ hm
 refine cy hm (I5 e121.Ballot 6 e121.Promised) fun x135 hm=> ?_
 apply vb hm<;>intro _ hm
 cases hm
 cases hi119
 have hm:=hk117
 exact hm.rr
 refine cy hm (w9 e121.Value) fun x138 hm=> ?_
 apply vb hm<;>intro _ hm
 cases hm
 cases hi119
 have hm:=hk117
 exact hm.rr
 cases hm
 exact⟨(_,(W (i25+1))),sb 0,hi119,Nat.lt_succ_self _⟩
 cases hm
 exact⟨(_,(W (i25+1))),sb 0,hi119,Nat.lt_succ_self _⟩
 refine cy hm (I5 e121.Ballot 6 e121.Promised) fun x141 hm=> ?_
 apply vb hm<;>intro _ hm
 cases hm
 cases hi119
 have hm:=hk117
 exact hm.rr
 refine cy hm (w9 e121.Value) fun x144 hm=> ?_
 apply vb hm<;>intro _ hm
 cases hm
 cases hi119
 have hm:=hk117
 exact hm.rr
 cases hm
 exact⟨(_,(W (i25+1))),sb 0,hi119,Nat.lt_succ_self _⟩
 refine cy hm (a2U e121.Promised) fun x147 hm=> ?_
 apply vb hm<;>intro _ hm
 cases hm
 cases hi119
 have hm:=hk117
 exact hm.rr
 apply vb hm<;>intro _ hm
 apply vb hm<;>intro _ hm
 refine cy hm (I5 e121.Ballot 6 e121.Promised) fun x152 hm=> ?_
 apply vb hm<;>intro _ hm
 cases hm
 cases hi119
 have hm:=hk117
 exact hm.rr
 refine cy hm (w9 e121.Value) fun x155 hm=> ?_
 apply vb hm<;>intro _ hm
 cases hm
 cases hi119
 have hm:=hk117
 exact hm.rr
 cases hm
 exact⟨(_,(W (i25+1))),sb 0,hi119,Nat.lt_succ_self _⟩
 cases hm
 exact⟨(_,(W (i25+1))),sb 0,hi119,Nat.lt_succ_self _⟩
 refine cy hm (I5 e121.Ballot 6 e121.Promised) fun x158 hm=> ?_
 apply vb hm<;>intro _ hm
 cases hm
 cases hi119
 have hm:=hk117
 exact hm.rr
 refine cy hm (w9 e121.Value) fun x161 hm=> ?_
 apply vb hm<;>intro _ hm
 cases hm
 cases hi119
 have hm:=hk117
 exact hm.rr
 cases hm
 exact⟨(_,(W (i25+1))),sb 0,hi119,Nat.lt_succ_self _⟩
 cases hm
 cases hi119
 have hm:=hk117
 exact hm.rr
def P4 (depot:Int):Option Int:=
 gd (0≤depot)<|
 some (W (1*(2^(min depot.toNat IntKind.i64.bits))))
theorem a2k (depot:Int) (r:Int) (hm:P4 depot=some r):d7 Tryz.prog 136 [DI depot] (fun x=>x=DI r):=by
 refine zn Tryz.func136 rfl ?_
 obtain⟨hg,hm⟩:=c7 hm
 refine⟨hg, ?_⟩
 exact hm.rr
def a1I (mask:Int):(Int×Int)→Option (Sum (Int×Int) (Int×Int)):=fun(n4,d5)=>
 if(decide (d5<6))=true then
  Option.bind (P4 d5) fun x11=>
  if((W ((BitVec.ofInt IntKind.i64.bits mask&&&BitVec.ofInt IntKind.i64.bits x11).toNat:Int)) !=0)=true then
   some (.inl ((W (n4+1)),(W (d5+1))))
  else
   some (.inl (n4,(W (d5+1))))
 else
  some (.inr (n4,d5))
def M4 (mask:Int):Option Bool:=
 Option.bind (j4 (a1I mask) (0,0)) fun(n14,d15)=>
 some (decide (n14≥4))
theorem a4b (mask:Int) (r:Bool) (hm:M4 mask=some r):d7 Tryz.prog 137 [DI mask] (fun x=>x=DB r):=by
 refine zn Tryz.func137 rfl ?_
 obtain⟨ev16,he,hk17⟩:=b9 hm
 refine c9k (a1I mask) (fun(n4,d5)=>⟨[(0,DI mask),(3,DI n4),(4,DI d5)], [],0⟩) (0,0) (sb 0) he ?_
 rintro fu18 ⟨n4,d5⟩ b hm hi19
 apply vb hm<;>intro _ hm
 refine cy hm (a2k d5) fun x21 hm=> ?_
 apply vb hm<;>intro _ hm
 cases hm
 exact⟨(_,((W (n4+1)),(W (d5+1)))),sb 0,hi19,Nat.lt_succ_self _⟩
 cases hm
 exact⟨(_,(n4,(W (d5+1)))),sb 0,hi19,Nat.lt_succ_self _⟩
 cases hm
 cases hi19
 have hm:=hk17
 exact hm.rr
def a1d (n:Int):Option Bool:=
 Option.bind (C7 n 0 63) fun x1=>
 some x1
theorem a6O (n:Int) (r:Bool) (hm:a1d n=some r):d7 Tryz.prog 189 [DI n] (fun x=>x=DB r):=by
 refine zn Tryz.func189 rfl ?_
 refine cy hm (I5 n 0 63) fun x1 hm=> ?_
 exact hm.rr
def L5 (l:(List c0)) (i26:Int) (e104:c0):Int→Option (Sum Int (Sum Int Bool)):=fun k135=>
 if(decide (k135<i26))=true then
  Option.bind (idx l k135) fun e141=>
  if(e141.Ballot==e104.Ballot)=true then
   some (.inr (.inr false))
  else
   some (.inl (W (k135+1)))
 else
  some (.inr (.inl k135))
def Z4 (l:(List c0)) (me:Int) (round:Int):Int→Option (Sum Int (Sum Int Bool)):=fun i26=>
 if(decide (i26<(l.length:Int)))=true then
  Option.bind (idx l i26) fun e104=>
  Option.bind (W9 e104.Night) fun x106=>
  if(!x106)=true then
   some (.inr (.inr false))
  else
   if(decide (i26>0))=true then
    Option.bind (idx l (W (i26-1))) fun e110=>
    if(decide (e110.Night≥e104.Night))=true then
     some (.inr (.inr false))
    else
     Option.bind (u2 e104.Value) fun x113=>
     if(!x113)=true then
      some (.inr (.inr false))
     else
      Option.bind (C7 e104.Ballot (W (6+me)) (W ((W (6*round))+me))) fun x116=>
      if(!x116)=true then
       some (.inr (.inr false))
      else
       Option.bind (w7 e104.Ballot 6) fun x119=>
       if(x119 !=me)=true then
        some (.inr (.inr false))
       else
        Option.bind (C7 e104.Best 0 (W (e104.Ballot-1))) fun x122=>
        if(!x122)=true then
         some (.inr (.inr false))
        else
         Option.bind (a1d e104.Mask) fun x125=>
         if(!x125)=true then
          some (.inr (.inr false))
         else
          Option.bind (M4 e104.Mask) fun x128=>
          if(!(e104.Asked==x128))=true then
           some (.inr (.inr false))
          else
           Option.bind (j4 (L5 l i26 e104) 0) fun e=>
           match e with
           | .inl k144=>
            some (.inl (W (i26+1)))
           | .inr rr145=>
            some (.inr (.inr rr145))
   else
    Option.bind (u2 e104.Value) fun x154=>
    if(!x154)=true then
     some (.inr (.inr false))
    else
     Option.bind (C7 e104.Ballot (W (6+me)) (W ((W (6*round))+me))) fun x157=>
     if(!x157)=true then
      some (.inr (.inr false))
     else
      Option.bind (w7 e104.Ballot 6) fun x160=>
      if(x160 !=me)=true then
       some (.inr (.inr false))
      else
       Option.bind (C7 e104.Best 0 (W (e104.Ballot-1))) fun x163=>
       if(!x163)=true then
        some (.inr (.inr false))
       else
        Option.bind (a1d e104.Mask) fun x166=>
        if(!x166)=true then
         some (.inr (.inr false))
        else
         Option.bind (M4 e104.Mask) fun x169=>
         if(!(e104.Asked==x169))=true then
          some (.inr (.inr false))
         else
          Option.bind (j4 (L5 l i26 e104) 0) fun e=>
          match e with
          | .inl k185=>
           some (.inl (W (i26+1)))
          | .inr rr186=>
           some (.inr (.inr rr186))
 else
  some (.inr (.inl i26))
def a5F (l:(List c0)) (me:Int) (round:Int):Option Bool:=
 if(decide ((l.length:Int)>12))=true then
  some false
 else
  Option.bind (j4 (Z4 l me round) 0) fun e=>
  match e with
  | .inl i195=>
   some true
  | .inr rr196=>
   some rr196
theorem b4b (l:(List c0)) (me:Int) (round:Int) (r:Bool) (hm:a5F l me round=some r):d7 Tryz.prog 167 [lD 6 l c0.c,DI me,DI round] (fun x=>x=DB r):=by
 refine zy c6Y [] [] [] Tryz.func167 rfl ?_
 apply vb hm<;>intro _ hm
 exact hm.rr
 obtain⟨ev197,he,hk198⟩:=b9 hm
 refine c9k (Z4 l me round) (fun i26=>⟨[(0,lD 6 l c0.c),(1,DI me),(2,DI round),(7,DI i26)], [],0⟩) 0 (sb 0) he ?_
 rintro fu199 i26 b hm hi200
 apply vb hm<;>intro _ hm
 refine ei hm fun e202 hm=> ?_
 refine⟨rfl, ?_⟩
 refine cy hm (a1r e202.Night) fun x204 hm=> ?_
 apply vb hm<;>intro _ hm
 cases hm
 cases hi200
 have hm:=hk198
 exact hm.rr
 apply vb hm<;>intro _ hm
 refine ei hm fun _ hm=> ?_
 apply vb hm<;>intro _ hm
 cases hm
 cases hi200
 have hm:=hk198
 exact hm.rr
 refine cy hm (w9 e202.Value) fun x211 hm=> ?_
 apply vb hm<;>intro _ hm
 cases hm
 cases hi200
 have hm:=hk198
 exact hm.rr
 refine cy hm (I5 e202.Ballot (W (6+me)) (W ((W (6*round))+me))) fun x214 hm=> ?_
 apply vb hm<;>intro _ hm
 cases hm
 cases hi200
 have hm:=hk198
 exact hm.rr
 refine cy hm (E1 e202.Ballot 6) fun x217 hm=> ?_
 apply vb hm<;>intro _ hm
 cases hm
 cases hi200
 have hm:=hk198
 exact hm.rr
 refine⟨rfl, ?_⟩
 refine cy hm (I5 e202.Best 0 (W (e202.Ballot-1))) fun x220 hm=> ?_
 apply vb hm<;>intro _ hm
 cases hm
 cases hi200
 have hm:=hk198
 exact hm.rr
 refine cy hm (a6O e202.Mask) fun x223 hm=> ?_
 apply vb hm<;>intro _ hm
 cases hm
 cases hi200
 have hm:=hk198
 exact hm.rr
 refine cy hm (a4b e202.Mask) fun x226 hm=> ?_
 apply vb hm<;>intro _ hm
 cases hm
 cases hi200
 have hm:=hk198
 exact hm.rr
 obtain⟨ev244,he,hk245⟩:=b9 hm
 refine c9k (L5 l i26 e202) (fun k233=>⟨[(0,lD 6 l c0.c),(1,DI me),(2,DI round),(7,DI i26),(8, .own 0 0),(9,DI k233)], [(0, .blk (c0.c e202) 67)],1⟩) 0 (sb 1) he ?_
 rintro fu246 k233 b hm hi247
 apply vb hm<;>intro _ hm
 refine⟨rfl, ?_⟩
 refine ei hm fun _ hm=> ?_
 apply vb hm<;>intro _ hm
 cases hm
 cases hi247
 have hm:=hk245
 cases hm
 cases hi200
 have hm:=hk198
 exact hm.rr
 cases hm
 exact⟨(_,(W (k233+1))),sb 1,hi247,Nat.lt_succ_self _⟩
 cases hm
 cases hi247
 have hm:=hk245
 cases hm
 exact⟨(_,(W (i26+1))),sb 0,hi200,Nat.lt_succ_self _⟩
 refine cy hm (w9 e202.Value) fun x252 hm=> ?_
 apply vb hm<;>intro _ hm
 cases hm
 cases hi200
 have hm:=hk198
 exact hm.rr
 refine cy hm (I5 e202.Ballot (W (6+me)) (W ((W (6*round))+me))) fun x255 hm=> ?_
 apply vb hm<;>intro _ hm
 cases hm
 cases hi200
 have hm:=hk198
 exact hm.rr
 refine cy hm (E1 e202.Ballot 6) fun x258 hm=> ?_
 apply vb hm<;>intro _ hm
 cases hm
 cases hi200
 have hm:=hk198
 exact hm.rr
 refine⟨rfl, ?_⟩
 refine cy hm (I5 e202.Best 0 (W (e202.Ballot-1))) fun x261 hm=> ?_
 apply vb hm<;>intro _ hm
 cases hm
 cases hi200
 have hm:=hk198
 exact hm.rr
 refine cy hm (a6O e202.Mask) fun x264 hm=> ?_
 apply vb hm<;>intro _ hm
 cases hm
 cases hi200
 have hm:=hk198
 exact hm.rr
 refine cy hm (a4b e202.Mask) fun x267 hm=> ?_
 apply vb hm<;>intro _ hm
 cases hm
 cases hi200
 have hm:=hk198
 exact hm.rr
 obtain⟨ev285,he,hk286⟩:=b9 hm
 refine c9k (L5 l i26 e202) (fun k274=>⟨[(0,lD 6 l c0.c),(1,DI me),(2,DI round),(7,DI i26),(8, .own 0 0),(9,DI k274)], [(0, .blk (c0.c e202) 67)],1⟩) 0 (sb 1) he ?_
 rintro fu287 k274 b hm hi288
 apply vb hm<;>intro _ hm
 refine⟨rfl, ?_⟩
 refine ei hm fun _ hm=> ?_
 apply vb hm<;>intro _ hm
 cases hm
 cases hi288
 have hm:=hk286
 cases hm
 cases hi200
 have hm:=hk198
 exact hm.rr
 cases hm
 exact⟨(_,(W (k274+1))),sb 1,hi288,Nat.lt_succ_self _⟩
 cases hm
 cases hi288
 have hm:=hk286
 cases hm
 exact⟨(_,(W (i26+1))),sb 0,hi200,Nat.lt_succ_self _⟩
 cases hm
 cases hi200
 have hm:=hk198
 exact hm.rr
def V1 (l:(List a7)):Int→Option (Sum Int (Sum Int Bool)):=fun i18=>
 if(decide (i18<(l.length:Int)))=true then
  Option.bind (idx l i18) fun e46=>
  Option.bind (W9 e46.Night) fun x48=>
  if(!x48)=true then
   some (.inr (.inr false))
  else
   Option.bind (Y0 e46.Ballot) fun x51=>
   if(!x51)=true then
    some (.inr (.inr false))
   else
    Option.bind (u2 e46.Value) fun x54=>
    if(!x54)=true then
     some (.inr (.inr false))
    else
     Option.bind (a1d e46.Mask) fun x57=>
     if(!x57)=true then
      some (.inr (.inr false))
     else
      if(e46.Mask==0)=true then
       some (.inr (.inr false))
      else
       if(decide (i18>0))=true then
        Option.bind (idx l (W (i18-1))) fun e62=>
        if(decide (e62.Ballot>e46.Ballot))=true then
         some (.inr (.inr false))
        else
         Option.bind (idx l (W (i18-1))) fun e65=>
         if(e65.Ballot==e46.Ballot)=true then
          Option.bind (idx l (W (i18-1))) fun e68=>
          if(decide (e68.Night≥e46.Night))=true then
           some (.inr (.inr false))
          else
           some (.inl (W (i18+1)))
         else
          some (.inl (W (i18+1)))
       else
        some (.inl (W (i18+1)))
 else
  some (.inr (.inl i18))
def a4Z (l:(List a7)):Option Bool:=
 if(decide ((l.length:Int)>60))=true then
  some false
 else
  Option.bind (j4 (V1 l) 0) fun e=>
  match e with
  | .inl i71=>
   some true
  | .inr rr72=>
   some rr72
theorem b3r (l:(List a7)) (r:Bool) (hm:a4Z l=some r):d7 Tryz.prog 168 [lD 4 l a7.c] (fun x=>x=DB r):=by
 refine zy c6f [] [] [] Tryz.func168 rfl ?_
 apply vb hm<;>intro _ hm
 exact hm.rr
 obtain⟨ev73,he,hk74⟩:=b9 hm
 refine c9k (V1 l) (fun i18=>⟨[(0,lD 4 l a7.c),(3,DI i18)], [],0⟩) 0 (sb 0) he ?_
 rintro fu75 i18 b hm hi76
 apply vb hm<;>intro _ hm
 refine ei hm fun e78 hm=> ?_
 refine cy hm (a1r e78.Night) fun x80 hm=> ?_
 apply vb hm<;>intro _ hm
 cases hm
 cases hi76
 have hm:=hk74
 exact hm.rr
 refine cy hm (a2U e78.Ballot) fun x83 hm=> ?_
 apply vb hm<;>intro _ hm
 cases hm
 cases hi76
 have hm:=hk74
 exact hm.rr
 refine cy hm (w9 e78.Value) fun x86 hm=> ?_
 apply vb hm<;>intro _ hm
 cases hm
 cases hi76
 have hm:=hk74
 exact hm.rr
 refine cy hm (a6O e78.Mask) fun x89 hm=> ?_
 apply vb hm<;>intro _ hm
 cases hm
 cases hi76
 have hm:=hk74
 exact hm.rr
 apply vb hm<;>intro _ hm
 cases hm
 cases hi76
 have hm:=hk74
 exact hm.rr
 refine⟨rfl, ?_⟩
 apply vb hm<;>intro _ hm
 refine ei hm fun _ hm=> ?_
 apply vb hm<;>intro _ hm
 cases hm
 cases hi76
 have hm:=hk74
 exact hm.rr
 refine ei hm fun _ hm=> ?_
 apply vb hm<;>intro _ hm
 refine ei hm fun _ hm=> ?_
 apply vb hm<;>intro _ hm
 cases hm
 cases hi76
 have hm:=hk74
 exact hm.rr
 cases hm
 exact⟨(_,(W (i18+1))),sb 0,hi76,Nat.lt_succ_self _⟩
 cases hm
 exact⟨(_,(W (i18+1))),sb 0,hi76,Nat.lt_succ_self _⟩
 cases hm
 exact⟨(_,(W (i18+1))),sb 0,hi76,Nat.lt_succ_self _⟩
 cases hm
 cases hi76
 have hm:=hk74
 exact hm.rr
def a0x (n:Int):Option Bool:=
 Option.bind (C7 n 1 99) fun x1=>
 some x1
theorem a3v (n:Int) (r:Bool) (hm:a0x n=some r):d7 Tryz.prog 83 [DI n] (fun x=>x=DB r):=by
 refine zn Tryz.func83 rfl ?_
 refine cy hm (I5 n 1 99) fun x1 hm=> ?_
 exact hm.rr
def F7 (n:Int):Option Bool:=
 Option.bind (C7 n 0 144001439) fun x1=>
 some x1
theorem K3 (n:Int) (r:Bool) (hm:F7 n=some r):d7 Tryz.prog 85 [DI n] (fun x=>x=DB r):=by
 refine zn Tryz.func85 rfl ?_
 refine cy hm (I5 n 0 144001439) fun x1 hm=> ?_
 exact hm.rr
def a4X (a:b8) (b_:b8):Option Bool:=
 if(a.Thing==b_.Thing)=true then
  some (decide ((if b_.From>a.From then b_.From else a.From)<(if b_.Until<a.Until then b_.Until else a.Until)))
 else
  some false
theorem b3t (a:b8) (b_:b8) (r:Bool) (hm:a4X a b_=some r):d7 Tryz.prog 86 [.agg (b8.c a), .agg (b8.c b_)] (fun x=>x=DB r):=by
 refine zn Tryz.func86 rfl ?_
 apply vb hm<;>intro _ hm
 exact hm.rr
 exact hm.rr
def R6 (l:(List b8)) (i21:Int) (e63:b8):Int→Option (Sum Int (Sum Int Bool)):=fun k87=>
 if(decide (k87<i21))=true then
  Option.bind (idx l k87) fun e95=>
  Option.bind (a4X e95 e63) fun x97=>
  if x97=true then
   some (.inr (.inr false))
  else
   some (.inl (W (k87+1)))
 else
  some (.inr (.inl k87))
def S2 (l:(List b8)) (me:Int):Int→Option (Sum Int (Sum Int Bool)):=fun i21=>
 if(decide (i21<(l.length:Int)))=true then
  Option.bind (idx l i21) fun e63=>
  if(e63.No !=(W (i21+1)))=true then
   some (.inr (.inr false))
  else
   Option.bind (a0x e63.Thing) fun x66=>
   if(!x66)=true then
    some (.inr (.inr false))
   else
    if((e63.Thing.tmod 6) !=me)=true then
     some (.inr (.inr false))
    else
     Option.bind (M0 e63.To) fun x70=>
     if(!x70)=true then
      some (.inr (.inr false))
     else
      if(e63.To==me)=true then
       some (.inr (.inr false))
      else
       Option.bind (F7 e63.From) fun x74=>
       if(!x74)=true then
        some (.inr (.inr false))
       else
        Option.bind (F7 e63.Until) fun x77=>
        if(!x77)=true then
         some (.inr (.inr false))
        else
         if(decide (e63.From>e63.Until))=true then
          some (.inr (.inr false))
         else
          Option.bind (j4 (R6 l i21 e63) 0) fun e=>
          match e with
          | .inl k100=>
           some (.inl (W (i21+1)))
          | .inr rr101=>
           some (.inr (.inr rr101))
 else
  some (.inr (.inl i21))
def a3Q (l:(List b8)) (me:Int):Option Bool:=
 if(decide ((l.length:Int)>40))=true then
  some false
 else
  Option.bind (j4 (S2 l me) 0) fun e=>
  match e with
  | .inl i112=>
   some true
  | .inr rr113=>
   some rr113
theorem b1O (l:(List b8)) (me:Int) (r:Bool) (hm:a3Q l me=some r):d7 Tryz.prog 169 [lD 5 l b8.c,DI me] (fun x=>x=DB r):=by
 refine zy c7d [] [] [] Tryz.func169 rfl ?_
 apply vb hm<;>intro _ hm
 exact hm.rr
 obtain⟨ev114,he,hk115⟩:=b9 hm
 refine c9k (S2 l me) (fun i21=>⟨[(0,lD 5 l b8.c),(1,DI me),(5,DI i21)], [],0⟩) 0 (sb 0) he ?_
 rintro fu116 i21 b hm hi117
 apply vb hm<;>intro _ hm
 refine ei hm fun e119 hm=> ?_
 apply vb hm<;>intro _ hm
 cases hm
 cases hi117
 have hm:=hk115
 exact hm.rr
 refine cy hm (a3v e119.Thing) fun x122 hm=> ?_
 apply vb hm<;>intro _ hm
 cases hm
 cases hi117
 have hm:=hk115
 exact hm.rr
 refine⟨by decide, ?_⟩
 apply vb hm<;>intro _ hm
 cases hm
 cases hi117
 have hm:=hk115
 exact hm.rr
 refine cy hm (Q8 e119.To) fun x126 hm=> ?_
 apply vb hm<;>intro _ hm
 cases hm
 cases hi117
 have hm:=hk115
 exact hm.rr
 apply vb hm<;>intro _ hm
 cases hm
 cases hi117
 have hm:=hk115
 exact hm.rr
 refine cy hm (K3 e119.From) fun x130 hm=> ?_
 apply vb hm<;>intro _ hm
 cases hm
 cases hi117
 have hm:=hk115
 exact hm.rr
 refine cy hm (K3 e119.Until) fun x133 hm=> ?_
 apply vb hm<;>intro _ hm
 cases hm
 cases hi117
 have hm:=hk115
 exact hm.rr
 apply vb hm<;>intro _ hm
 cases hm
 cases hi117
 have hm:=hk115
 exact hm.rr
 obtain⟨ev158,he,hk159⟩:=b9 hm
 refine c9k (R6 l i21 e119) (fun k143=>⟨[(0,lD 5 l b8.c),(1,DI me),(5,DI i21),(6, .own 0 0),(7,DI k143)], [(0, .blk (b8.c e119) 73)],1⟩) 0 (sb 1) he ?_
 rintro fu160 k143 b hm hi161
 apply vb hm<;>intro _ hm
 refine⟨rfl, ?_⟩
 refine ei hm fun e163 hm=> ?_
 refine cy hm (b3t e163 e119) fun x165 hm=> ?_
 apply vb hm<;>intro _ hm
 cases hm
 cases hi161
 have hm:=hk159
 cases hm
 cases hi117
 have hm:=hk115
 exact hm.rr
 cases hm
 exact⟨(_,(W (k143+1))),sb 1,hi161,Nat.lt_succ_self _⟩
 cases hm
 cases hi161
 have hm:=hk159
 cases hm
 exact⟨(_,(W (i21+1))),sb 0,hi117,Nat.lt_succ_self _⟩
 cases hm
 cases hi117
 have hm:=hk115
 exact hm.rr
def V0 (l:(List b6)) (me:Int):Int→Option (Sum Int (Sum Int Bool)):=fun i23=>
 if(decide (i23<(l.length:Int)))=true then
  Option.bind (idx l i23) fun e56=>
  Option.bind (M0 e56.Owner) fun x58=>
  if(!x58)=true then
   some (.inr (.inr false))
  else
   if(e56.Owner==me)=true then
    some (.inr (.inr false))
   else
    Option.bind (C7 e56.No 1 40) fun x62=>
    if(!x62)=true then
     some (.inr (.inr false))
    else
     Option.bind (a0x e56.Thing) fun x65=>
     if(!x65)=true then
      some (.inr (.inr false))
     else
      if((e56.Thing.tmod 6) !=e56.Owner)=true then
       some (.inr (.inr false))
      else
       Option.bind (F7 e56.From) fun x69=>
       if(!x69)=true then
        some (.inr (.inr false))
       else
        Option.bind (F7 e56.Until) fun x72=>
        if(!x72)=true then
         some (.inr (.inr false))
        else
         if(decide (e56.From>e56.Until))=true then
          some (.inr (.inr false))
         else
          if(decide (i23>0))=true then
           Option.bind (idx l (W (i23-1))) fun e77=>
           if(decide (e77.Owner>e56.Owner))=true then
            some (.inr (.inr false))
           else
            Option.bind (idx l (W (i23-1))) fun e80=>
            if(e80.Owner==e56.Owner)=true then
             Option.bind (idx l (W (i23-1))) fun e83=>
             if(decide (e83.No≥e56.No))=true then
              some (.inr (.inr false))
             else
              some (.inl (W (i23+1)))
            else
             some (.inl (W (i23+1)))
          else
           some (.inl (W (i23+1)))
 else
  some (.inr (.inl i23))
def a5b (l:(List b6)) (me:Int):Option Bool:=
 if(decide ((l.length:Int)>60))=true then
  some false
 else
  Option.bind (j4 (V0 l me) 0) fun e=>
  match e with
  | .inl i86=>
   some true
  | .inr rr87=>
   some rr87
theorem b3X (l:(List b6)) (me:Int) (r:Bool) (hm:a5b l me=some r):d7 Tryz.prog 170 [lD 6 l b6.c,DI me] (fun x=>x=DB r):=by
 refine zy c7e [] [] [] Tryz.func170 rfl ?_
 apply vb hm<;>intro _ hm
 exact hm.rr
 obtain⟨ev88,he,hk89⟩:=b9 hm
 refine c9k (V0 l me) (fun i23=>⟨[(0,lD 6 l b6.c),(1,DI me),(5,DI i23)], [],0⟩) 0 (sb 0) he ?_
 rintro fu90 i23 b hm hi91
 apply vb hm<;>intro _ hm
 refine ei hm fun e93 hm=> ?_
 refine cy hm (Q8 e93.Owner) fun x95 hm=> ?_
 apply vb hm<;>intro _ hm
 cases hm
 cases hi91
 have hm:=hk89
 exact hm.rr
 apply vb hm<;>intro _ hm
 cases hm
 cases hi91
 have hm:=hk89
 exact hm.rr
 refine cy hm (I5 e93.No 1 40) fun x99 hm=> ?_
 apply vb hm<;>intro _ hm
 cases hm
 cases hi91
 have hm:=hk89
 exact hm.rr
 refine cy hm (a3v e93.Thing) fun x102 hm=> ?_
 apply vb hm<;>intro _ hm
 cases hm
 cases hi91
 have hm:=hk89
 exact hm.rr
 refine⟨by decide, ?_⟩
 apply vb hm<;>intro _ hm
 cases hm
 cases hi91
 have hm:=hk89
 exact hm.rr
 refine cy hm (K3 e93.From) fun x106 hm=> ?_
 apply vb hm<;>intro _ hm
 cases hm
 cases hi91
 have hm:=hk89
 exact hm.rr
 refine cy hm (K3 e93.Until) fun x109 hm=> ?_
 apply vb hm<;>intro _ hm
 cases hm
 cases hi91
 have hm:=hk89
 exact hm.rr
 apply vb hm<;>intro _ hm
 cases hm
 cases hi91
 have hm:=hk89
 exact hm.rr
 refine⟨rfl, ?_⟩
 apply vb hm<;>intro _ hm
 refine ei hm fun _ hm=> ?_
 apply vb hm<;>intro _ hm
 cases hm
 cases hi91
 have hm:=hk89
 exact hm.rr
 refine ei hm fun _ hm=> ?_
 apply vb hm<;>intro _ hm
 refine ei hm fun _ hm=> ?_
 apply vb hm<;>intro _ hm
 cases hm
 cases hi91
 have hm:=hk89
 exact hm.rr
 cases hm
 exact⟨(_,(W (i23+1))),sb 0,hi91,Nat.lt_succ_self _⟩
 cases hm
 exact⟨(_,(W (i23+1))),sb 0,hi91,Nat.lt_succ_self _⟩
 cases hm
 exact⟨(_,(W (i23+1))),sb 0,hi91,Nat.lt_succ_self _⟩
 cases hm
 cases hi91
 have hm:=hk89
 exact hm.rr
def a1f (me:Int) (s:b7):Option Int:=
 Option.bind (M0 me) fun x1=>
 if(!x1)=true then
  some 90
 else
  Option.bind (C7 s.Round 0 9999) fun x4=>
  if(!x4)=true then
   some 90
  else
   Option.bind (a4v s.Slots) fun x7=>
   if(!x7)=true then
    some 90
   else
    Option.bind (a5F s.Bids me s.Round) fun x10=>
    if(!x10)=true then
     some 90
    else
     Option.bind (a4Z s.Heard) fun x13=>
     if(!x13)=true then
      some 90
     else
      Option.bind (a3Q s.Leases me) fun x16=>
      if(!x16)=true then
       some 90
      else
       Option.bind (a5b s.Loans me) fun x19=>
       if(!x19)=true then
        some 90
       else
        some 0
theorem a6f (me:Int) (s:b7) (r:Int) (hm:a1f me s=some r):d7 Tryz.prog 131 [DI me, .agg (b7.c s)] (fun x=>x=DI r):=by
 refine zn Tryz.func131 rfl ?_
 refine cy hm (Q8 me) fun x1 hm=> ?_
 apply vb hm<;>intro _ hm
 exact hm.rr
 refine cy hm (I5 s.Round 0 9999) fun x4 hm=> ?_
 apply vb hm<;>intro _ hm
 exact hm.rr
 refine cy hm (b2A s.Slots) fun x7 hm=> ?_
 apply vb hm<;>intro _ hm
 exact hm.rr
 refine cy hm (b4b s.Bids me s.Round) fun x10 hm=> ?_
 apply vb hm<;>intro _ hm
 exact hm.rr
 refine cy hm (b3r s.Heard) fun x13 hm=> ?_
 apply vb hm<;>intro _ hm
 exact hm.rr
 refine cy hm (b1O s.Leases me) fun x16 hm=> ?_
 apply vb hm<;>intro _ hm
 exact hm.rr
 refine cy hm (b3X s.Loans me) fun x19 hm=> ?_
 apply vb hm<;>intro _ hm
 exact hm.rr
 exact hm.rr
def Q9 (x:a6):Option Int:=
 Option.bind (a1f x.Me x.Now) fun x1=>
 if(x1 !=0)=true then
  some 90
 else
  Option.bind (a1f x.Me x.Safe) fun x4=>
  if(x4 !=0)=true then
   some 90
  else
   some 0
theorem a0V (x:a6) (r:Int) (hm:Q9 x=some r):d7 Tryz.prog 79 [.agg (a6.c x)] (fun x=>x=DI r):=by
 refine zn Tryz.func79 rfl ?_
 refine cy hm (a6f x.Me x.Now) fun x1 hm=> ?_
 apply vb hm<;>intro _ hm
 exact hm.rr
 refine cy hm (a6f x.Me x.Safe) fun x4 hm=> ?_
 apply vb hm<;>intro _ hm
 exact hm.rr
 exact hm.rr
def O3 (s:b7):Option b7:=
 gd ((([]:List a8).length+s.Slots.length)*32≤140737488355328∧([]:List a8).length+s.Slots.length≤9223372036854775807)<|
 gd ((([]:List c0).length+s.Bids.length)*48≤140737488355328∧([]:List c0).length+s.Bids.length≤9223372036854775807)<|
 gd ((([]:List a7).length+s.Heard.length)*32≤140737488355328∧([]:List a7).length+s.Heard.length≤9223372036854775807)<|
 gd ((([]:List b8).length+s.Leases.length)*40≤140737488355328∧([]:List b8).length+s.Leases.length≤9223372036854775807)<|
 gd ((([]:List b6).length+s.Loans.length)*48≤140737488355328∧([]:List b6).length+s.Loans.length≤9223372036854775807)<|
 some (⟨s.Round,(([]:List a8)++s.Slots),(([]:List c0)++s.Bids),(([]:List a7)++s.Heard),(([]:List b8)++s.Leases),(([]:List b6)++s.Loans)⟩:b7)
theorem a1g (s:b7) (r:b7) (hm:O3 s=some r):d7 Tryz.prog 87 [.agg (b7.c s)] (fun x=>x= .agg (b7.c r)):=by
 refine zy c6Z [] [] [] Tryz.func87 rfl ?_
 refine⟨rfl, ?_⟩
 refine⟨([]:List a8).flatMap a8.c,([]:List a8).length,⟨rfl,rfl⟩, ?_⟩
 obtain⟨hg,hm⟩:=c7 hm
 refine⟨hg,_,_,c8 (c:=a8.c) (l:=(([]:List a8):List a8)) (r:=(s.Slots:List a8)), ?_⟩
 refine⟨([]:List c0).flatMap c0.c,([]:List c0).length,⟨rfl,rfl⟩, ?_⟩
 obtain⟨hg,hm⟩:=c7 hm
 refine⟨hg,_,_,c8 (c:=c0.c) (l:=(([]:List c0):List c0)) (r:=(s.Bids:List c0)), ?_⟩
 refine⟨([]:List a7).flatMap a7.c,([]:List a7).length,⟨rfl,rfl⟩, ?_⟩
 obtain⟨hg,hm⟩:=c7 hm
 refine⟨hg,_,_,c8 (c:=a7.c) (l:=(([]:List a7):List a7)) (r:=(s.Heard:List a7)), ?_⟩
 refine⟨([]:List b8).flatMap b8.c,([]:List b8).length,⟨rfl,rfl⟩, ?_⟩
 obtain⟨hg,hm⟩:=c7 hm
 refine⟨hg,_,_,c8 (c:=b8.c) (l:=(([]:List b8):List b8)) (r:=(s.Leases:List b8)), ?_⟩
 refine⟨([]:List b6).flatMap b6.c,([]:List b6).length,⟨rfl,rfl⟩, ?_⟩
 obtain⟨hg,hm⟩:=c7 hm
 refine⟨hg,_,_,c8 (c:=b6.c) (l:=(([]:List b6):List b6)) (r:=(s.Loans:List b6)), ?_⟩
 cases hm
 exact c9j (c9h _)
theorem a8C (s:b7) (r:b7) (hm:O3 s=some r):b5u Tryz.prog 87 [.agg (b7.c s)] [(4,r.Slots.length,r.Slots.flatMap a8.c,87),(6,r.Bids.length,r.Bids.flatMap c0.c,67),(4,r.Heard.length,r.Heard.flatMap a7.c,89),(5,r.Leases.length,r.Leases.flatMap b8.c,73),(6,r.Loans.length,r.Loans.flatMap b6.c,78)] [DI r.Round, .row 0 4, .row 1 6, .row 2 4, .row 3 5, .row 4 6]:=by
 refine b6E (X:=⟨Tryz.prog,tt,Tryz.f87.ntmps,c6Z, [51,76,144,145,173], [], [], [], []⟩) pok _ Tryz.func87 rfl rfl (Nat.le_of_ble_eq_true rfl) rfl ?_
 refine⟨rfl, ?_⟩
 refine⟨([]:List a8).flatMap a8.c,([]:List a8).length,⟨rfl,rfl⟩, ?_⟩
 obtain⟨hg,hm⟩:=c7 hm
 refine⟨hg,_,_,c8 (c:=a8.c) (l:=(([]:List a8):List a8)) (r:=(s.Slots:List a8)), ?_⟩
 refine⟨([]:List c0).flatMap c0.c,([]:List c0).length,⟨rfl,rfl⟩, ?_⟩
 obtain⟨hg,hm⟩:=c7 hm
 refine⟨hg,_,_,c8 (c:=c0.c) (l:=(([]:List c0):List c0)) (r:=(s.Bids:List c0)), ?_⟩
 refine⟨([]:List a7).flatMap a7.c,([]:List a7).length,⟨rfl,rfl⟩, ?_⟩
 obtain⟨hg,hm⟩:=c7 hm
 refine⟨hg,_,_,c8 (c:=a7.c) (l:=(([]:List a7):List a7)) (r:=(s.Heard:List a7)), ?_⟩
 refine⟨([]:List b8).flatMap b8.c,([]:List b8).length,⟨rfl,rfl⟩, ?_⟩
 obtain⟨hg,hm⟩:=c7 hm
 refine⟨hg,_,_,c8 (c:=b8.c) (l:=(([]:List b8):List b8)) (r:=(s.Leases:List b8)), ?_⟩
 refine⟨([]:List b6).flatMap b6.c,([]:List b6).length,⟨rfl,rfl⟩, ?_⟩
 obtain⟨hg,hm⟩:=c7 hm
 refine⟨hg,_,_,c8 (c:=b6.c) (l:=(([]:List b6):List b6)) (r:=(s.Loans:List b6)), ?_⟩
 cases hm
 exact⟨rfl,⟨⟨rfl,rfl⟩,⟨⟨rfl,rfl,rfl,rfl⟩,⟨⟨rfl,rfl,rfl,rfl⟩,⟨⟨rfl,rfl,rfl,rfl⟩,⟨⟨rfl,rfl,rfl,rfl⟩,⟨⟨rfl,rfl,rfl,rfl⟩,rfl⟩⟩⟩⟩⟩⟩⟩
def R0 (x:a6):Option a6:=
 Option.bind (O3 x.Now) fun x1=>
 Option.bind (O3 x.Safe) fun x3=>
 some (⟨x.Me,x1,x3⟩:a6)
theorem b4p (x:a6) (r:a6) (hm:R0 x=some r):d7 Tryz.prog 82 [.agg (a6.c x)] (fun x=>x= .agg (a6.c r)):=by
 refine zy c7f [] [] [] Tryz.func82 rfl ?_
 refine⟨rfl, ?_⟩
 obtain⟨x1,hx2,hm⟩:=b9 hm
 refine a4R.det (a1g x.Now _ hx2) ?_
 obtain⟨x3,hx4,hm⟩:=b9 hm
 refine a4R.det (a1g x.Safe _ hx4) ?_
 cases hm
 exact c9j (c9h _)
theorem a4N (x:a6) (r:a6) (hm:R0 x=some r):b5u Tryz.prog 82 [.agg (a6.c x)] [(4,r.Now.Slots.length,r.Now.Slots.flatMap a8.c,87),(6,r.Now.Bids.length,r.Now.Bids.flatMap c0.c,67),(4,r.Now.Heard.length,r.Now.Heard.flatMap a7.c,89),(5,r.Now.Leases.length,r.Now.Leases.flatMap b8.c,73),(6,r.Now.Loans.length,r.Now.Loans.flatMap b6.c,78),(4,r.Safe.Slots.length,r.Safe.Slots.flatMap a8.c,87),(6,r.Safe.Bids.length,r.Safe.Bids.flatMap c0.c,67),(4,r.Safe.Heard.length,r.Safe.Heard.flatMap a7.c,89),(5,r.Safe.Leases.length,r.Safe.Leases.flatMap b8.c,73),(6,r.Safe.Loans.length,r.Safe.Loans.flatMap b6.c,78)] [DI r.Me,DI r.Now.Round, .row 0 4, .row 1 6, .row 2 4, .row 3 5, .row 4 6,DI r.Safe.Round, .row 5 4, .row 6 6, .row 7 4, .row 8 5, .row 9 6]:=by
 refine b6E (X:=⟨Tryz.prog,tt,Tryz.f82.ntmps,c7f, [51,76,144,145,173], [87], [], [], []⟩) pok _ Tryz.func82 rfl rfl (Nat.le_of_ble_eq_true rfl) rfl ?_
 refine⟨rfl, ?_⟩
 obtain⟨x1,hx2,hm⟩:=b9 hm
 refine .inr (a4O.mk ⟨_,_,a8C x.Now _ hx2, ?_⟩)
 obtain⟨x3,hx4,hm⟩:=b9 hm
 refine .inr (a4O.mk ⟨_,_,a8C x.Safe _ hx4, ?_⟩)
 cases hm
 exact⟨rfl,⟨⟨rfl,rfl⟩,⟨⟨rfl,rfl⟩,⟨⟨rfl,rfl,rfl,rfl⟩,⟨⟨rfl,rfl,rfl,rfl⟩,⟨⟨rfl,rfl,rfl,rfl⟩,⟨⟨rfl,rfl,rfl,rfl⟩,⟨⟨rfl,rfl,rfl,rfl⟩,⟨⟨rfl,rfl⟩,⟨⟨rfl,rfl,rfl,rfl⟩,⟨⟨rfl,rfl,rfl,rfl⟩,⟨⟨rfl,rfl,rfl,rfl⟩,⟨⟨rfl,rfl,rfl,rfl⟩,⟨⟨rfl,rfl,rfl,rfl⟩,rfl⟩⟩⟩⟩⟩⟩⟩⟩⟩⟩⟩⟩⟩⟩
def J4 (x:a6) (night:Int) (value:Int) (x10:a6):(Bool×Int×(List c0)×(List c0)×(List c0))→Option (Sum (Bool×Int×(List c0)×(List c0)×(List c0)) (Bool×Int×(List c0)×(List c0)×(List c0))):=fun(done26,i27,v28,v29,v30)=>
 if(decide (i27<(x.Now.Bids.length:Int)))=true then
  if(!done26)=true then
   Option.bind (idx x.Now.Bids i27) fun e53=>
   if(decide (e53.Night≥night))=true then
    gd ((v30.length+([(⟨night,(W ((W (6*(W (x10.Now.Round+1))))+x.Me)),value,0,0,false⟩:c0)]:List c0).length)*48≤140737488355328∧v30.length+([(⟨night,(W ((W (6*(W (x10.Now.Round+1))))+x.Me)),value,0,0,false⟩:c0)]:List c0).length≤9223372036854775807)<|
    Option.bind (idx x.Now.Bids i27) fun e56=>
    if(e56.Night !=night)=true then
     Option.bind (idx x.Now.Bids i27) fun e59=>
     gd (((v30++([(⟨night,(W ((W (6*(W (x10.Now.Round+1))))+x.Me)),value,0,0,false⟩:c0)]:List c0)).length+([e59]:List c0).length)*48≤140737488355328∧(v30++([(⟨night,(W ((W (6*(W (x10.Now.Round+1))))+x.Me)),value,0,0,false⟩:c0)]:List c0)).length+([e59]:List c0).length≤9223372036854775807)<|
     some (.inl (true,(W (i27+1)),v28,v29,((v30++([(⟨night,(W ((W (6*(W (x10.Now.Round+1))))+x.Me)),value,0,0,false⟩:c0)]:List c0))++([e59]:List c0))))
    else
     some (.inl (true,(W (i27+1)),v28,v29,(v30++([(⟨night,(W ((W (6*(W (x10.Now.Round+1))))+x.Me)),value,0,0,false⟩:c0)]:List c0))))
   else
    Option.bind (idx x.Now.Bids i27) fun e61=>
    if(e61.Night !=night)=true then
     Option.bind (idx x.Now.Bids i27) fun e64=>
     gd ((v30.length+([e64]:List c0).length)*48≤140737488355328∧v30.length+([e64]:List c0).length≤9223372036854775807)<|
     some (.inl (done26,(W (i27+1)),v28,v29,(v30++([e64]:List c0))))
    else
     some (.inl (done26,(W (i27+1)),v28,v29,v30))
  else
   Option.bind (idx x.Now.Bids i27) fun e66=>
   if(e66.Night !=night)=true then
    Option.bind (idx x.Now.Bids i27) fun e69=>
    gd ((v30.length+([e69]:List c0).length)*48≤140737488355328∧v30.length+([e69]:List c0).length≤9223372036854775807)<|
    some (.inl (done26,(W (i27+1)),v28,v29,(v30++([e69]:List c0))))
   else
    some (.inl (done26,(W (i27+1)),v28,v29,v30))
 else
  some (.inr (done26,i27,v28,v29,v30))
def a3z (x:a6) (night:Int) (value:Int):Option (a6×Int):=
 Option.bind (Q9 x) fun x1=>
 if(x1 !=0)=true then
  some ((⟨0,(⟨0, [], [], [], [], []⟩:b7),(⟨0, [], [], [], [], []⟩:b7)⟩:a6),90)
 else
  Option.bind (W9 night) fun x4=>
  if(!x4)=true then
   some ((⟨0,(⟨0, [], [], [], [], []⟩:b7),(⟨0, [], [], [], [], []⟩:b7)⟩:a6),6)
  else
   Option.bind (u2 value) fun x7=>
   if(!x7)=true then
    some ((⟨0,(⟨0, [], [], [], [], []⟩:b7),(⟨0, [], [], [], [], []⟩:b7)⟩:a6),1)
   else
    Option.bind (R0 x) fun x10=>
    Option.bind (j4 (J4 x night value x10) (false,0, [], [], [])) fun(done71,i72,v73,v74,v75)=>
    if(!done71)=true then
     gd ((v75.length+([(⟨night,(W ((W (6*(W (x10.Now.Round+1))))+x.Me)),value,0,0,false⟩:c0)]:List c0).length)*48≤140737488355328∧v75.length+([(⟨night,(W ((W (6*(W (x10.Now.Round+1))))+x.Me)),value,0,0,false⟩:c0)]:List c0).length≤9223372036854775807)<|
     if(decide ((W (x10.Now.Round+1))>9999))=true then
      some ((⟨0,(⟨0, [], [], [], [], []⟩:b7),(⟨0, [], [], [], [], []⟩:b7)⟩:a6),2)
     else
      if(decide (((v75++([(⟨night,(W ((W (6*(W (x10.Now.Round+1))))+x.Me)),value,0,0,false⟩:c0)]:List c0)).length:Int)>12))=true then
       some ((⟨0,(⟨0, [], [], [], [], []⟩:b7),(⟨0, [], [], [], [], []⟩:b7)⟩:a6),2)
      else
       some ((⟨x10.Me,(⟨(W (x10.Now.Round+1)),x10.Now.Slots,(v75++([(⟨night,(W ((W (6*(W (x10.Now.Round+1))))+x.Me)),value,0,0,false⟩:c0)]:List c0)),x10.Now.Heard,x10.Now.Leases,x10.Now.Loans⟩:b7),x10.Safe⟩:a6),0)
    else
     if(decide ((W (x10.Now.Round+1))>9999))=true then
      some ((⟨0,(⟨0, [], [], [], [], []⟩:b7),(⟨0, [], [], [], [], []⟩:b7)⟩:a6),2)
     else
      if(decide ((v75.length:Int)>12))=true then
       some ((⟨0,(⟨0, [], [], [], [], []⟩:b7),(⟨0, [], [], [], [], []⟩:b7)⟩:a6),2)
      else
       some ((⟨x10.Me,(⟨(W (x10.Now.Round+1)),x10.Now.Slots,v75,x10.Now.Heard,x10.Now.Leases,x10.Now.Loans⟩:b7),x10.Safe⟩:a6),0)
theorem b4o (x:a6) (night:Int) (value:Int) (r:(a6×Int)) (hm:a3z x night value=some r):d7 Tryz.prog 41 [.agg (a6.c x),DI night,DI value] (fun x=>x= .tup [.agg (a6.c r.1),DI r.2]):=by
 refine zy c8r [] [] [] Tryz.func41 rfl ?_
 refine cy hm (a0V x) fun x1 hm=> ?_
 apply vb hm<;>intro _ hm
 cases hm
 exact c9j (le1)
 refine cy hm (a1r night) fun x4 hm=> ?_
 apply vb hm<;>intro _ hm
 cases hm
 exact c9j (le1)
 refine cy hm (w9 value) fun x7 hm=> ?_
 apply vb hm<;>intro _ hm
 cases hm
 exact c9j (le1)
 refine cy hm (b4p x) fun x10 hm=> ?_
 obtain⟨ev81,he,hk82⟩:=b9 hm
 refine c9k (J4 x night value x10) (fun(done26,i27,v28,v29,v30)=>⟨[(1,DI night),(3, .own 0 0),(6, .own 1 0),(8, .own 2 0),(9, .own 3 0),(10,DB done26),(11,DI i27)], [(0, .blk (a6.c x) 38),(1, .blk [DI 0,DI 0,nS,nS,nS,nS,nS,DI 0,nS,nS,nS,nS,nS] 38),(2, .blk [DI x10.Me,DI (W (x10.Now.Round+1)),lD 4 x10.Now.Slots a8.c, .row 6 6,lD 4 x10.Now.Heard a7.c,lD 5 x10.Now.Leases b8.c,lD 6 x10.Now.Loans b6.c,DI x10.Safe.Round,lD 4 x10.Safe.Slots a8.c,lD 6 x10.Safe.Bids c0.c,lD 4 x10.Safe.Heard a7.c,lD 5 x10.Safe.Leases b8.c,lD 6 x10.Safe.Loans b6.c] 38),(3, .blk [DI night,DI (W ((W (6*(W (x10.Now.Round+1))))+x.Me)),DI value,DI 0,DI 0,DB false] 67),(4,rE 6 v28 c0.c 67),(5,rE 6 v29 c0.c 67),(6,rE 6 v30 c0.c 67)],7⟩) (false,0, [], [], []) (sb 4) he ?_
 rintro fu83 ⟨done26,i27,v28,v29,v30⟩ b hm hi84
 apply vb hm<;>intro _ hm
 apply vb hm<;>intro _ hm
 refine ei hm fun _ hm=> ?_
 apply vb hm<;>intro _ hm
 refine⟨([(⟨night,(W ((W (6*(W (x10.Now.Round+1))))+x.Me)),value,0,0,false⟩:c0)]:List c0).flatMap c0.c,([(⟨night,(W ((W (6*(W (x10.Now.Round+1))))+x.Me)),value,0,0,false⟩:c0)]:List c0).length,⟨rfl,rfl⟩, ?_⟩
 obtain⟨hg,hm⟩:=c7 hm
 refine⟨hg,_,_,c8 (c:=c0.c) (l:=(v30:List c0)) (r:=(([(⟨night,(W ((W (6*(W (x10.Now.Round+1))))+x.Me)),value,0,0,false⟩:c0)]:List c0):List c0)), ?_⟩
 refine ei hm fun _ hm=> ?_
 apply vb hm<;>intro _ hm
 refine⟨rfl, ?_⟩
 refine ei hm fun e93 hm=> ?_
 refine⟨([e93]:List c0).flatMap c0.c,([e93]:List c0).length,⟨rfl,rfl⟩, ?_⟩
 obtain⟨hg,hm⟩:=c7 hm
 refine⟨hg,_,_,c8 (c:=c0.c) (l:=((v30++([(⟨night,(W ((W (6*(W (x10.Now.Round+1))))+x.Me)),value,0,0,false⟩:c0)]:List c0)):List c0)) (r:=(([e93]:List c0):List c0)), ?_⟩
 cases hm
 exact⟨(_,(true,(W (i27+1)),v28,v29,((v30++([(⟨night,(W ((W (6*(W (x10.Now.Round+1))))+x.Me)),value,0,0,false⟩:c0)]:List c0))++([e93]:List c0)))),sb 7,hi84,Nat.lt_succ_self _⟩
 cases hm
 exact⟨(_,(true,(W (i27+1)),v28,v29,(v30++([(⟨night,(W ((W (6*(W (x10.Now.Round+1))))+x.Me)),value,0,0,false⟩:c0)]:List c0)))),sb 7,hi84,Nat.lt_succ_self _⟩
 refine ei hm fun _ hm=> ?_
 apply vb hm<;>intro _ hm
 refine⟨rfl, ?_⟩
 refine ei hm fun e98 hm=> ?_
 refine⟨([e98]:List c0).flatMap c0.c,([e98]:List c0).length,⟨rfl,rfl⟩, ?_⟩
 obtain⟨hg,hm⟩:=c7 hm
 refine⟨hg,_,_,c8 (c:=c0.c) (l:=(v30:List c0)) (r:=(([e98]:List c0):List c0)), ?_⟩
 cases hm
 exact⟨(_,(done26,(W (i27+1)),v28,v29,(v30++([e98]:List c0)))),sb 7,hi84,Nat.lt_succ_self _⟩
 cases hm
 exact⟨(_,(done26,(W (i27+1)),v28,v29,v30)),sb 7,hi84,Nat.lt_succ_self _⟩
 refine ei hm fun _ hm=> ?_
 apply vb hm<;>intro _ hm
 refine⟨rfl, ?_⟩
 refine ei hm fun e103 hm=> ?_
 refine⟨([e103]:List c0).flatMap c0.c,([e103]:List c0).length,⟨rfl,rfl⟩, ?_⟩
 obtain⟨hg,hm⟩:=c7 hm
 refine⟨hg,_,_,c8 (c:=c0.c) (l:=(v30:List c0)) (r:=(([e103]:List c0):List c0)), ?_⟩
 cases hm
 exact⟨(_,(done26,(W (i27+1)),v28,v29,(v30++([e103]:List c0)))),sb 7,hi84,Nat.lt_succ_self _⟩
 cases hm
 exact⟨(_,(done26,(W (i27+1)),v28,v29,v30)),sb 7,hi84,Nat.lt_succ_self _⟩
 cases hm
 cases hi84
 have hm:=hk82
 apply vb hm<;>intro _ hm
 refine⟨([(⟨night,(W ((W (6*(W (x10.Now.Round+1))))+x.Me)),value,0,0,false⟩:c0)]:List c0).flatMap c0.c,([(⟨night,(W ((W (6*(W (x10.Now.Round+1))))+x.Me)),value,0,0,false⟩:c0)]:List c0).length,⟨rfl,rfl⟩, ?_⟩
 obtain⟨hg,hm⟩:=c7 hm
 refine⟨hg,_,_,c8 (c:=c0.c) (l:=(v30:List c0)) (r:=(([(⟨night,(W ((W (6*(W (x10.Now.Round+1))))+x.Me)),value,0,0,false⟩:c0)]:List c0):List c0)), ?_⟩
 apply vb hm<;>intro _ hm
 cases hm
 exact c9j (le1)
 apply vb hm<;>intro _ hm
 cases hm
 exact c9j (le1)
 cases hm
 exact c9j (c9h _)
 apply vb hm<;>intro _ hm
 cases hm
 exact c9j (le1)
 apply vb hm<;>intro _ hm
 cases hm
 exact c9j (le1)
 cases hm
 exact c9j (c9h _)
def X3 (x:a6) (d:a2Z):Int→Option (Sum Int (Sum Int (a6×Int))):=fun i25=>
 if(decide (i25<(x.Now.Leases.length:Int)))=true then
  Option.bind (idx x.Now.Leases i25) fun e33=>
  Option.bind (a4X e33 (⟨(W ((x.Now.Leases.length:Int)+1)),d.Thing,d.To,d.From,d.Until⟩:b8)) fun x35=>
  if x35=true then
   some (.inr (.inr ((⟨0,(⟨0, [], [], [], [], []⟩:b7),(⟨0, [], [], [], [], []⟩:b7)⟩:a6),93)))
  else
   some (.inl (W (i25+1)))
 else
  some (.inr (.inl i25))
def a6I (x:a6) (d:a2Z):Option (a6×Int):=
 Option.bind (Q9 x) fun x1=>
 if(x1 !=0)=true then
  some ((⟨0,(⟨0, [], [], [], [], []⟩:b7),(⟨0, [], [], [], [], []⟩:b7)⟩:a6),90)
 else
  Option.bind (a0x d.Thing) fun x4=>
  if(!x4)=true then
   some ((⟨0,(⟨0, [], [], [], [], []⟩:b7),(⟨0, [], [], [], [], []⟩:b7)⟩:a6),1)
  else
   Option.bind (M0 d.To) fun x7=>
   if(!x7)=true then
    some ((⟨0,(⟨0, [], [], [], [], []⟩:b7),(⟨0, [], [], [], [], []⟩:b7)⟩:a6),1)
   else
    Option.bind (F7 d.From) fun x10=>
    if(!x10)=true then
     some ((⟨0,(⟨0, [], [], [], [], []⟩:b7),(⟨0, [], [], [], [], []⟩:b7)⟩:a6),95)
    else
     Option.bind (F7 d.Until) fun x13=>
     if(!x13)=true then
      some ((⟨0,(⟨0, [], [], [], [], []⟩:b7),(⟨0, [], [], [], [], []⟩:b7)⟩:a6),95)
     else
      if((d.Thing.tmod 6) !=x.Me)=true then
       some ((⟨0,(⟨0, [], [], [], [], []⟩:b7),(⟨0, [], [], [], [], []⟩:b7)⟩:a6),92)
      else
       if(d.To==x.Me)=true then
        some ((⟨0,(⟨0, [], [], [], [], []⟩:b7),(⟨0, [], [], [], [], []⟩:b7)⟩:a6),1)
       else
        if(decide (d.From>d.Until))=true then
         some ((⟨0,(⟨0, [], [], [], [], []⟩:b7),(⟨0, [], [], [], [], []⟩:b7)⟩:a6),95)
        else
         Option.bind (j4 (X3 x d) 0) fun e=>
         match e with
         | .inl i38=>
          if((x.Now.Leases.length:Int)==40)=true then
           some ((⟨0,(⟨0, [], [], [], [], []⟩:b7),(⟨0, [], [], [], [], []⟩:b7)⟩:a6),2)
          else
           Option.bind (R0 x) fun x40=>
           gd ((x40.Now.Leases.length+([(⟨(W ((x.Now.Leases.length:Int)+1)),d.Thing,d.To,d.From,d.Until⟩:b8)]:List b8).length)*40≤140737488355328∧x40.Now.Leases.length+([(⟨(W ((x.Now.Leases.length:Int)+1)),d.Thing,d.To,d.From,d.Until⟩:b8)]:List b8).length≤9223372036854775807)<|
           some ((⟨x40.Me,(⟨x40.Now.Round,x40.Now.Slots,x40.Now.Bids,x40.Now.Heard,(x40.Now.Leases++([(⟨(W ((x.Now.Leases.length:Int)+1)),d.Thing,d.To,d.From,d.Until⟩:b8)]:List b8)),x40.Now.Loans⟩:b7),x40.Safe⟩:a6),0)
         | .inr rr42=>
          some rr42
theorem b9m (x:a6) (d:a2Z) (r:(a6×Int)) (hm:a6I x d=some r):d7 Tryz.prog 42 [.agg (a6.c x), .agg (a2Z.c d)] (fun x=>x= .tup [.agg (a6.c r.1),DI r.2]):=by
 refine zy c7F [51,76,144,145,173] [82] [] Tryz.func42 rfl ?_
 refine cy hm (a0V x) fun x1 hm=> ?_
 apply vb hm<;>intro _ hm
 cases hm
 exact c9j (le1)
 refine cy hm (a3v d.Thing) fun x4 hm=> ?_
 apply vb hm<;>intro _ hm
 cases hm
 exact c9j (le1)
 refine cy hm (Q8 d.To) fun x7 hm=> ?_
 apply vb hm<;>intro _ hm
 cases hm
 exact c9j (le1)
 refine cy hm (K3 d.From) fun x10 hm=> ?_
 apply vb hm<;>intro _ hm
 cases hm
 exact c9j (le1)
 refine cy hm (K3 d.Until) fun x13 hm=> ?_
 apply vb hm<;>intro _ hm
 cases hm
 exact c9j (le1)
 refine⟨by decide, ?_⟩
 apply vb hm<;>intro _ hm
 cases hm
 exact c9j (le1)
 apply vb hm<;>intro _ hm
 cases hm
 exact c9j (le1)
 apply vb hm<;>intro _ hm
 cases hm
 exact c9j (le1)
 obtain⟨ev43,he,hk44⟩:=b9 hm
 refine c9k (X3 x d) (fun i25=>⟨[(2, .own 0 0),(4, .own 2 0),(6, .own 3 0),(7,DI i25)], [(0, .blk (a6.c x) 38),(2, .blk [DI 0,DI 0,nS,nS,nS,nS,nS,DI 0,nS,nS,nS,nS,nS] 38),(3, .blk [DI (W ((x.Now.Leases.length:Int)+1)),DI d.Thing,DI d.To,DI d.From,DI d.Until] 73)],4⟩) 0 (sb 4) he ?_
 rintro fu45 i25 b hm hi46
 apply vb hm<;>intro _ hm
 refine⟨rfl, ?_⟩
 refine ei hm fun e48 hm=> ?_
 refine cy hm (b3t e48 ((⟨(W ((x.Now.Leases.length:Int)+1)),d.Thing,d.To,d.From,d.Until⟩:b8))) fun x50 hm=> ?_
 apply vb hm<;>intro _ hm
 cases hm
 cases hi46
 have hm:=hk44
 cases hm
 exact c9j (le1)
 cases hm
 exact⟨(_,(W (i25+1))),sb 4,hi46,Nat.lt_succ_self _⟩
 cases hm
 cases hi46
 have hm:=hk44
 apply vb hm<;>intro _ hm
 cases hm
 exact c9j (le1)
 obtain⟨x54,hx55,hm⟩:=b9 hm
 refine .inr (a4O.mk ⟨_,_,a4N x _ hx55, ?_⟩)
 refine⟨([(⟨(W ((x.Now.Leases.length:Int)+1)),d.Thing,d.To,d.From,d.Until⟩:b8)]:List b8).flatMap b8.c,([(⟨(W ((x.Now.Leases.length:Int)+1)),d.Thing,d.To,d.From,d.Until⟩:b8)]:List b8).length,⟨rfl,rfl⟩, ?_⟩
 obtain⟨hg,hm⟩:=c7 hm
 refine⟨hg,_,_,c8 (c:=b8.c) (l:=(x54.Now.Leases:List b8)) (r:=(([(⟨(W ((x.Now.Leases.length:Int)+1)),d.Thing,d.To,d.From,d.Until⟩:b8)]:List b8):List b8)), ?_⟩
 cases hm
 exact c9j (c9h _)
def a2Q (y:U6):Option a2Z:=
 Option.bind (w7 y.Depot 6) fun x1=>
 Option.bind (w7 y.From 40) fun x3=>
 Option.bind (w7 y.Thing 3) fun x5=>
 Option.bind (w7 y.To 6) fun x7=>
 Option.bind (w7 y.Long 12) fun x9=>
 some (⟨(W (x1+(W (6*(W (1+x5)))))),x7,(W (x3*10)),(W ((W (x3*10))+(W (x9*10))))⟩:a2Z)
theorem b3V (y:U6) (r:a2Z) (hm:a2Q y=some r):d7 Tryz.prog 43 [.agg (U6.c y)] (fun x=>x= .agg (a2Z.c r)):=by
 refine zy c8K [] [] [] Tryz.func43 rfl ?_
 refine cy hm (E1 y.Depot 6) fun x1 hm=> ?_
 refine cy hm (E1 y.From 40) fun x3 hm=> ?_
 refine⟨rfl, ?_⟩
 refine cy hm (E1 y.Thing 3) fun x5 hm=> ?_
 refine cy hm (E1 y.To 6) fun x7 hm=> ?_
 refine cy hm (E1 y.Long 12) fun x9 hm=> ?_
 cases hm
 exact c9j (c9h _)
def a0u (l:(Int×Int×Int)) (x10:a6):Int→Option (Sum Int (Sum Int (a6×Int))):=fun i24=>
 if(decide (i24<(x10.Now.Loans.length:Int)))=true then
  Option.bind (idx x10.Now.Loans i24) fun e38=>
  Option.bind (idx x10.Now.Loans i24) fun e40=>
  if(e40.Owner !=l.1)=true then
   some (.inl (W (i24+1)))
  else
   if(e40.No !=l.2.1)=true then
    some (.inl (W (i24+1)))
   else
    if e40.Back=true then
     some (.inl (W (i24+1)))
    else
     Option.bind (idx x10.Now.Loans i24) fun e45=>
     Option.bind (idx x10.Now.Loans i24) fun e47=>
     some (.inr (.inr ((⟨x10.Me,(⟨x10.Now.Round,x10.Now.Slots,x10.Now.Bids,x10.Now.Heard,x10.Now.Leases,(x10.Now.Loans.set i24.toNat (⟨e40.Owner,e40.No,e40.Thing,e40.From,(if(if e40.From>l.2.2 then e40.From else l.2.2)<e40.Until then(if e40.From>l.2.2 then e40.From else l.2.2)else e40.Until),true⟩:b6))⟩:b7),x10.Safe⟩:a6),0)))
 else
  some (.inr (.inl i24))
def a4h (x:a6) (l:(Int×Int×Int)):Option (a6×Int):=
 Option.bind (Q9 x) fun x1=>
 if(x1 !=0)=true then
  some ((⟨0,(⟨0, [], [], [], [], []⟩:b7),(⟨0, [], [], [], [], []⟩:b7)⟩:a6),90)
 else
  Option.bind (M0 l.1) fun x4=>
  if(!x4)=true then
   some ((⟨0,(⟨0, [], [], [], [], []⟩:b7),(⟨0, [], [], [], [], []⟩:b7)⟩:a6),1)
  else
   Option.bind (F7 l.2.2) fun x7=>
   if(!x7)=true then
    some ((⟨0,(⟨0, [], [], [], [], []⟩:b7),(⟨0, [], [], [], [], []⟩:b7)⟩:a6),95)
   else
    Option.bind (R0 x) fun x10=>
    Option.bind (j4 (a0u l x10) 0) fun e=>
    match e with
    | .inl i49=>
     some ((⟨0,(⟨0, [], [], [], [], []⟩:b7),(⟨0, [], [], [], [], []⟩:b7)⟩:a6),94)
    | .inr rr50=>
     some rr50
theorem b6b (x:a6) (l:(Int×Int×Int)) (r:(a6×Int)) (hm:a4h x l=some r):d7 Tryz.prog 44 [.agg (a6.c x), .agg [DI l.1,DI l.2.1,DI l.2.2]] (fun x=>x= .tup [.agg (a6.c r.1),DI r.2]):=by
 refine zy [] [51,76,144,145,173] [82] [] Tryz.func44 rfl ?_
 refine cy hm (a0V x) fun x1 hm=> ?_
 apply vb hm<;>intro _ hm
 cases hm
 exact c9j (le1)
 refine⟨by decide, ?_⟩
 refine cy hm (Q8 l.1) fun x4 hm=> ?_
 apply vb hm<;>intro _ hm
 cases hm
 exact c9j (le1)
 refine⟨by decide, ?_⟩
 refine cy hm (K3 l.2.2) fun x7 hm=> ?_
 apply vb hm<;>intro _ hm
 cases hm
 exact c9j (le1)
 obtain⟨x10,hx11,hm⟩:=b9 hm
 refine .inr (a4O.mk ⟨_,_,a4N x _ hx11, ?_⟩)
 obtain⟨ev51,he,hk52⟩:=b9 hm
 refine c9k (a0u l x10) (fun i24=>⟨[(3, .own 1 0),(4, .own 2 0),(6, .own 13 0),(7,DI i24)], [(1, .blk [DI l.1,DI l.2.1,DI l.2.2] 27),(2, .blk [DI 0,DI 0,nS,nS,nS,nS,nS,DI 0,nS,nS,nS,nS,nS] 38),(3,rE 4 x10.Now.Slots a8.c 87),(4,rE 6 x10.Now.Bids c0.c 67),(5,rE 4 x10.Now.Heard a7.c 89),(6,rE 5 x10.Now.Leases b8.c 73),(7,rE 6 x10.Now.Loans b6.c 78),(8,rE 4 x10.Safe.Slots a8.c 87),(9,rE 6 x10.Safe.Bids c0.c 67),(10,rE 4 x10.Safe.Heard a7.c 89),(11,rE 5 x10.Safe.Leases b8.c 73),(12,rE 6 x10.Safe.Loans b6.c 78),(13, .blk [DI x10.Me,DI x10.Now.Round, .row 3 4, .row 4 6, .row 5 4, .row 6 5, .row 7 6,DI x10.Safe.Round, .row 8 4, .row 9 6, .row 10 4, .row 11 5, .row 12 6] 38)],14⟩) 0 (sb 14) he ?_
 rintro fu53 i24 b hm hi54
 apply vb hm<;>intro _ hm
 refine eb hm fun _ hm=> ?_
 refine er hm fun e58 hm=> ?_
 refine⟨by decide, ?_⟩
 apply vb hm<;>intro _ hm
 cases hm
 exact⟨(_,(W (i24+1))),sb 14,hi54,Nat.lt_succ_self _⟩
 refine⟨by decide, ?_⟩
 apply vb hm<;>intro _ hm
 cases hm
 exact⟨(_,(W (i24+1))),sb 14,hi54,Nat.lt_succ_self _⟩
 apply vb hm<;>intro _ hm
 cases hm
 exact⟨(_,(W (i24+1))),sb 14,hi54,Nat.lt_succ_self _⟩
 refine⟨by decide, ?_⟩
 refine eb hm fun _ hm=> ?_
 obtain⟨e65,hx66,hm⟩:=b9 hm
 refine⟨_,a1M (fun _=>rfl) hx66,_,Q6 (y:=(⟨e58.Owner,e58.No,e58.Thing,e58.From,(if(if e58.From>l.2.2 then e58.From else l.2.2)<e58.Until then(if e58.From>l.2.2 then e58.From else l.2.2)else e58.Until),true⟩:b6)) (fun _=>rfl) hx66, ?_⟩
 cases hm
 cases hi54
 have hm:=hk52
 cases hm
 exact c9j (by first|exact c9h _|(simp only [a6.c,lD,List.length_set];exact c9h _))
 cases hm
 cases hi54
 have hm:=hk52
 cases hm
 exact c9j (le1)
def a5y (x:a6):Option (a6×Int):=
 Option.bind (Q9 x) fun x1=>
 if(x1 !=0)=true then
  some ((⟨0,(⟨0, [], [], [], [], []⟩:b7),(⟨0, [], [], [], [], []⟩:b7)⟩:a6),90)
 else
  Option.bind (O3 x.Now) fun x4=>
  Option.bind (O3 x.Now) fun x6=>
  some ((⟨x.Me,x4,x6⟩:a6),0)
theorem b7I (x:a6) (r:(a6×Int)) (hm:a5y x=some r):d7 Tryz.prog 45 [.agg (a6.c x)] (fun x=>x= .tup [.agg (a6.c r.1),DI r.2]):=by
 refine zy c8m [] [] [] Tryz.func45 rfl ?_
 refine cy hm (a0V x) fun x1 hm=> ?_
 apply vb hm<;>intro _ hm
 cases hm
 exact c9j (le1)
 refine⟨rfl, ?_⟩
 refine cy hm (a1g x.Now) fun x4 hm=> ?_
 refine cy hm (a1g x.Now) fun x6 hm=> ?_
 cases hm
 exact c9j (c9h _)
def a6K (x:a6):Option (a6×Int):=
 Option.bind (Q9 x) fun x1=>
 if(x1 !=0)=true then
  some ((⟨0,(⟨0, [], [], [], [], []⟩:b7),(⟨0, [], [], [], [], []⟩:b7)⟩:a6),90)
 else
  Option.bind (O3 x.Safe) fun x4=>
  Option.bind (O3 x.Safe) fun x6=>
  some ((⟨x.Me,x4,x6⟩:a6),0)
theorem b8N (x:a6) (r:(a6×Int)) (hm:a6K x=some r):d7 Tryz.prog 46 [.agg (a6.c x)] (fun x=>x= .tup [.agg (a6.c r.1),DI r.2]):=by
 refine zy c8d [] [] [] Tryz.func46 rfl ?_
 refine cy hm (a0V x) fun x1 hm=> ?_
 apply vb hm<;>intro _ hm
 cases hm
 exact c9j (le1)
 refine⟨rfl, ?_⟩
 refine cy hm (a1g x.Safe) fun x4 hm=> ?_
 refine cy hm (a1g x.Safe) fun x6 hm=> ?_
 cases hm
 exact c9j (c9h _)
def a9l (c:b5):Option b5:=
 if(c.Kind==1)=true then
  if(c.Kind==2)=true then
   if(c.Kind !=1)=true then
    some (⟨c.Kind,c.From,c.To,c.Night,c.Ballot,c.Best,c.Value,0,0,0,0⟩:b5)
   else
    some (⟨c.Kind,c.From,c.To,c.Night,c.Ballot,c.Best,0,0,0,0,0⟩:b5)
  else
   if(c.Kind !=1)=true then
    some (⟨c.Kind,c.From,c.To,c.Night,c.Ballot,0,c.Value,0,0,0,0⟩:b5)
   else
    some (⟨c.Kind,c.From,c.To,c.Night,c.Ballot,0,0,0,0,0,0⟩:b5)
 else
  if(c.Kind==2)=true then
   if(c.Kind !=1)=true then
    some (⟨c.Kind,c.From,c.To,c.Night,c.Ballot,c.Best,c.Value,0,0,0,0⟩:b5)
   else
    some (⟨c.Kind,c.From,c.To,c.Night,c.Ballot,c.Best,0,0,0,0,0⟩:b5)
  else
   if(c.Kind==3)=true then
    if(c.Kind !=1)=true then
     some (⟨c.Kind,c.From,c.To,c.Night,c.Ballot,0,c.Value,0,0,0,0⟩:b5)
    else
     some (⟨c.Kind,c.From,c.To,c.Night,c.Ballot,0,0,0,0,0,0⟩:b5)
   else
    if(c.Kind==4)=true then
     if(c.Kind !=1)=true then
      some (⟨c.Kind,c.From,c.To,c.Night,c.Ballot,0,c.Value,0,0,0,0⟩:b5)
     else
      some (⟨c.Kind,c.From,c.To,c.Night,c.Ballot,0,0,0,0,0,0⟩:b5)
    else
     if(c.Kind==5)=true then
      some (⟨c.Kind,c.From,c.To,0,0,0,0,c.No,c.Thing,c.Start,c.Until⟩:b5)
     else
      if(c.Kind==6)=true then
       some (⟨c.Kind,c.From,c.To,0,0,0,0,c.No,c.Thing,0,c.Until⟩:b5)
      else
       some (⟨c.Kind,c.From,c.To,0,0,0,0,0,0,0,0⟩:b5)
theorem b9n (c:b5) (r:b5) (hm:a9l c=some r):d7 Tryz.prog 133 [.agg (b5.c c)] (fun x=>x= .agg (b5.c r)):=by
 refine zn Tryz.func133 rfl ?_
 apply vb hm<;>intro h1 hm
 refine VIf.t h1 ?_
 apply vb hm<;>intro _ hm
 apply vb hm<;>intro _ hm
 cases hm
 exact c9j (c9h _)
 cases hm
 exact c9j (c9h _)
 apply vb hm<;>intro _ hm
 cases hm
 exact c9j (c9h _)
 cases hm
 exact c9j (c9h _)
 apply vb hm<;>intro h5 hm
 refine VIf.t h5 ?_
 refine VIf.t h5 ?_
 apply vb hm<;>intro _ hm
 cases hm
 exact c9j (c9h _)
 cases hm
 exact c9j (c9h _)
 apply vb hm<;>intro h7 hm
 refine VIf.t h7 ?_
 refine VIf.f h5 ?_
 apply vb hm<;>intro _ hm
 cases hm
 exact c9j (c9h _)
 cases hm
 exact c9j (c9h _)
 apply vb hm<;>intro _ hm
 refine VIf.f h5 ?_
 apply vb hm<;>intro _ hm
 cases hm
 exact c9j (c9h _)
 cases hm
 exact c9j (c9h _)
 apply vb hm<;>intro _ hm
 cases hm
 exact c9j (c9h _)
 apply vb hm<;>intro _ hm
 cases hm
 exact c9j (c9h _)
 cases hm
 exact c9j (c9h _)
def a1G (c:b5):Option Int:=
 Option.bind (C7 c.Kind 1 6) fun x1=>
 if(!x1)=true then
  some 91
 else
  Option.bind (M0 c.From) fun x4=>
  if(!x4)=true then
   some 91
  else
   Option.bind (M0 c.To) fun x7=>
   if(!x7)=true then
    some 91
   else
    Option.bind (a9l c) fun x10=>
    if(!((c.Kind==x10.Kind)&&((c.From==x10.From)&&((c.To==x10.To)&&((c.Night==x10.Night)&&((c.Ballot==x10.Ballot)&&((c.Best==x10.Best)&&((c.Value==x10.Value)&&((c.No==x10.No)&&((c.Thing==x10.Thing)&&((c.Start==x10.Start)&&(c.Until==x10.Until))))))))))))=true then
     some 91
    else
     if(decide (c.Kind≤4))=true then
      Option.bind (W9 c.Night) fun x14=>
      if x14=true then
       Option.bind (Y0 c.Ballot) fun x17=>
       if(!x17)=true then
        some 91
       else
        Option.bind (w7 c.Ballot 6) fun x20=>
        if(c.Kind==1)=true then
         if(!(x20==c.From))=true then
          some 91
         else
          some 0
        else
         if(c.Kind==2)=true then
          if(c.Best==0)=true then
           if(x20==c.To)=true then
            if(c.Value==0)=true then
             some 0
            else
             Option.bind (C7 c.Best 6 (W (c.Ballot-1))) fun x28=>
             if x28=true then
              Option.bind (u2 c.Value) fun x31=>
              if(!x31)=true then
               some 91
              else
               some 0
             else
              some 91
           else
            some 91
          else
           if(x20==c.To)=true then
            Option.bind (C7 c.Best 6 (W (c.Ballot-1))) fun x35=>
            if x35=true then
             Option.bind (u2 c.Value) fun x38=>
             if(!x38)=true then
              some 91
             else
              some 0
            else
             some 91
           else
            some 91
         else
          if(c.Kind==3)=true then
           if(x20==c.From)=true then
            Option.bind (u2 c.Value) fun x43=>
            if(!x43)=true then
             some 91
            else
             some 0
           else
            some 91
          else
           if(c.Kind==4)=true then
            Option.bind (u2 c.Value) fun x47=>
            if(!x47)=true then
             some 91
            else
             some 0
           else
            if(c.Kind==5)=true then
             if((c.Thing.tmod 6)==c.From)=true then
              Option.bind (F7 c.Start) fun x52=>
              if x52=true then
               if(!(decide (c.Start≤c.Until)))=true then
                some 91
               else
                some 0
              else
               some 91
             else
              some 91
            else
             if(c.Kind==6)=true then
              if(!((c.Thing.tmod 6)==c.To))=true then
               some 91
              else
               some 0
             else
              some 0
      else
       some 91
     else
      if(c.From !=c.To)=true then
       Option.bind (C7 c.No 1 40) fun x59=>
       if x59=true then
        Option.bind (a0x c.Thing) fun x62=>
        if x62=true then
         Option.bind (F7 c.Until) fun x65=>
         if(!x65)=true then
          some 91
         else
          Option.bind (w7 c.Ballot 6) fun x68=>
          if(c.Kind==1)=true then
           if(!(x68==c.From))=true then
            some 91
           else
            some 0
          else
           if(c.Kind==2)=true then
            if(c.Best==0)=true then
             if(x68==c.To)=true then
              if(c.Value==0)=true then
               some 0
              else
               Option.bind (C7 c.Best 6 (W (c.Ballot-1))) fun x76=>
               if x76=true then
                Option.bind (u2 c.Value) fun x79=>
                if(!x79)=true then
                 some 91
                else
                 some 0
               else
                some 91
             else
              some 91
            else
             if(x68==c.To)=true then
              Option.bind (C7 c.Best 6 (W (c.Ballot-1))) fun x83=>
              if x83=true then
               Option.bind (u2 c.Value) fun x86=>
               if(!x86)=true then
                some 91
               else
                some 0
              else
               some 91
             else
              some 91
           else
            if(c.Kind==3)=true then
             if(x68==c.From)=true then
              Option.bind (u2 c.Value) fun x91=>
              if(!x91)=true then
               some 91
              else
               some 0
             else
              some 91
            else
             if(c.Kind==4)=true then
              Option.bind (u2 c.Value) fun x95=>
              if(!x95)=true then
               some 91
              else
               some 0
             else
              if(c.Kind==5)=true then
               if((c.Thing.tmod 6)==c.From)=true then
                Option.bind (F7 c.Start) fun x100=>
                if x100=true then
                 if(!(decide (c.Start≤c.Until)))=true then
                  some 91
                 else
                  some 0
                else
                 some 91
               else
                some 91
              else
               if(c.Kind==6)=true then
                if(!((c.Thing.tmod 6)==c.To))=true then
                 some 91
                else
                 some 0
               else
                some 0
        else
         some 91
       else
        some 91
      else
       some 91
theorem b1M (c:b5) (r:Int) (hm:a1G c=some r):d7 Tryz.prog 88 [.agg (b5.c c)] (fun x=>x=DI r):=by
 refine zy c7H [] [] [] Tryz.func88 rfl ?_
 refine⟨rfl, ?_⟩
 refine cy hm (I5 c.Kind 1 6) fun x1 hm=> ?_
 apply vb hm<;>intro _ hm
 exact hm.rr
 refine cy hm (Q8 c.From) fun x4 hm=> ?_
 apply vb hm<;>intro _ hm
 exact hm.rr
 refine cy hm (Q8 c.To) fun x7 hm=> ?_
 apply vb hm<;>intro _ hm
 exact hm.rr
 refine cy hm (b9n c) fun x10 hm=> ?_
 apply vb hm<;>intro _ hm
 exact hm.rr
 apply vb hm<;>intro _ hm
 refine cy hm (a1r c.Night) fun x14 hm=> ?_
 apply vb hm<;>intro _ hm
 refine cy hm (a2U c.Ballot) fun x17 hm=> ?_
 apply vb hm<;>intro h19 hm
 exact hm.rr
 refine cy hm (E1 c.Ballot 6) fun x20 hm=> ?_
 apply vb hm<;>intro _ hm
 apply vb hm<;>intro _ hm
 exact hm.rr
 exact hm.rr
 apply vb hm<;>intro _ hm
 apply vb hm<;>intro _ hm
 apply vb hm<;>intro _ hm
 apply vb hm<;>intro _ hm
 exact hm.rr
 refine cy hm (I5 c.Best 6 (W (c.Ballot-1))) fun x28 hm=> ?_
 apply vb hm<;>intro _ hm
 refine cy hm (w9 c.Value) fun x31 hm=> ?_
 apply vb hm<;>intro _ hm
 exact hm.rr
 exact hm.rr
 exact hm.rr
 exact hm.rr
 apply vb hm<;>intro _ hm
 refine cy hm (I5 c.Best 6 (W (c.Ballot-1))) fun x35 hm=> ?_
 apply vb hm<;>intro _ hm
 refine cy hm (w9 c.Value) fun x38 hm=> ?_
 apply vb hm<;>intro _ hm
 exact hm.rr
 exact hm.rr
 exact hm.rr
 exact hm.rr
 apply vb hm<;>intro _ hm
 apply vb hm<;>intro _ hm
 refine cy hm (w9 c.Value) fun x43 hm=> ?_
 apply vb hm<;>intro _ hm
 exact hm.rr
 exact hm.rr
 exact hm.rr
 apply vb hm<;>intro _ hm
 refine cy hm (w9 c.Value) fun x47 hm=> ?_
 apply vb hm<;>intro _ hm
 exact hm.rr
 exact hm.rr
 apply vb hm<;>intro _ hm
 refine⟨by decide, ?_⟩
 apply vb hm<;>intro _ hm
 refine cy hm (K3 c.Start) fun x52 hm=> ?_
 apply vb hm<;>intro _ hm
 apply vb hm<;>intro _ hm
 exact hm.rr
 exact hm.rr
 exact hm.rr
 exact hm.rr
 apply vb hm<;>intro _ hm
 refine⟨by decide, ?_⟩
 apply vb hm<;>intro _ hm
 exact hm.rr
 exact hm.rr
 refine VIf.f h19 ?_
 exact hm.rr
 exact hm.rr
 apply vb hm<;>intro _ hm
 refine cy hm (I5 c.No 1 40) fun x59 hm=> ?_
 apply vb hm<;>intro _ hm
 refine cy hm (a3v c.Thing) fun x62 hm=> ?_
 apply vb hm<;>intro _ hm
 refine cy hm (K3 c.Until) fun x65 hm=> ?_
 apply vb hm<;>intro h67 hm
 exact hm.rr
 refine cy hm (E1 c.Ballot 6) fun x68 hm=> ?_
 apply vb hm<;>intro _ hm
 apply vb hm<;>intro _ hm
 exact hm.rr
 exact hm.rr
 apply vb hm<;>intro _ hm
 apply vb hm<;>intro _ hm
 apply vb hm<;>intro _ hm
 apply vb hm<;>intro _ hm
 exact hm.rr
 refine cy hm (I5 c.Best 6 (W (c.Ballot-1))) fun x76 hm=> ?_
 apply vb hm<;>intro _ hm
 refine cy hm (w9 c.Value) fun x79 hm=> ?_
 apply vb hm<;>intro _ hm
 exact hm.rr
 exact hm.rr
 exact hm.rr
 exact hm.rr
 apply vb hm<;>intro _ hm
 refine cy hm (I5 c.Best 6 (W (c.Ballot-1))) fun x83 hm=> ?_
 apply vb hm<;>intro _ hm
 refine cy hm (w9 c.Value) fun x86 hm=> ?_
 apply vb hm<;>intro _ hm
 exact hm.rr
 exact hm.rr
 exact hm.rr
 exact hm.rr
 apply vb hm<;>intro _ hm
 apply vb hm<;>intro _ hm
 refine cy hm (w9 c.Value) fun x91 hm=> ?_
 apply vb hm<;>intro _ hm
 exact hm.rr
 exact hm.rr
 exact hm.rr
 apply vb hm<;>intro _ hm
 refine cy hm (w9 c.Value) fun x95 hm=> ?_
 apply vb hm<;>intro _ hm
 exact hm.rr
 exact hm.rr
 apply vb hm<;>intro _ hm
 refine⟨by decide, ?_⟩
 apply vb hm<;>intro _ hm
 refine cy hm (K3 c.Start) fun x100 hm=> ?_
 apply vb hm<;>intro _ hm
 apply vb hm<;>intro _ hm
 exact hm.rr
 exact hm.rr
 exact hm.rr
 exact hm.rr
 apply vb hm<;>intro _ hm
 refine⟨by decide, ?_⟩
 apply vb hm<;>intro _ hm
 exact hm.rr
 exact hm.rr
 refine VIf.f h67 ?_
 exact hm.rr
 exact hm.rr
 exact hm.rr
 exact hm.rr
def P0 (s:b7) (c:b5):((List a7)×Bool×Int×(List a7)×(List a7)×(List a7)×(List a7)×(List a7)×(List a7))→Option (Sum ((List a7)×Bool×Int×(List a7)×(List a7)×(List a7)×(List a7)×(List a7)×(List a7)) ((List a7)×Bool×Int×(List a7)×(List a7)×(List a7)×(List a7)×(List a7)×(List a7))):=fun(out18,done19,i20,out21,out22,out23,out24,out25,out26)=>
 if(decide (i20<(s.Heard.length:Int)))=true then
  Option.bind (idx s.Heard i20) fun e47=>
  if(e47.Ballot==c.Ballot)=true then
   if(e47.Night==c.Night)=true then
    if(e47.Value==c.Value)=true then
     Option.bind (P4 c.From) fun x52=>
     gd ((out26.length+([(⟨e47.Night,e47.Ballot,e47.Value,(W ((BitVec.ofInt IntKind.i64.bits e47.Mask|||BitVec.ofInt IntKind.i64.bits x52).toNat:Int))⟩:a7)]:List a7).length)*32≤140737488355328∧out26.length+([(⟨e47.Night,e47.Ballot,e47.Value,(W ((BitVec.ofInt IntKind.i64.bits e47.Mask|||BitVec.ofInt IntKind.i64.bits x52).toNat:Int))⟩:a7)]:List a7).length≤9223372036854775807)<|
     some (.inl (out18,true,(W (i20+1)),out21,out22,out23,out24,out25,(out26++([(⟨e47.Night,e47.Ballot,e47.Value,(W ((BitVec.ofInt IntKind.i64.bits e47.Mask|||BitVec.ofInt IntKind.i64.bits x52).toNat:Int))⟩:a7)]:List a7))))
    else
     gd ((out26.length+([e47]:List a7).length)*32≤140737488355328∧out26.length+([e47]:List a7).length≤9223372036854775807)<|
     some (.inl (out18,true,(W (i20+1)),out21,out22,out23,out24,out25,(out26++([e47]:List a7))))
   else
    if(!done19)=true then
     if(decide (e47.Ballot>c.Ballot))=true then
      Option.bind (P4 c.From) fun x56=>
      gd ((out26.length+([(⟨c.Night,c.Ballot,c.Value,x56⟩:a7)]:List a7).length)*32≤140737488355328∧out26.length+([(⟨c.Night,c.Ballot,c.Value,x56⟩:a7)]:List a7).length≤9223372036854775807)<|
      gd (((out26++([(⟨c.Night,c.Ballot,c.Value,x56⟩:a7)]:List a7)).length+([e47]:List a7).length)*32≤140737488355328∧(out26++([(⟨c.Night,c.Ballot,c.Value,x56⟩:a7)]:List a7)).length+([e47]:List a7).length≤9223372036854775807)<|
      some (.inl (out18,true,(W (i20+1)),out21,out22,out23,out24,out25,((out26++([(⟨c.Night,c.Ballot,c.Value,x56⟩:a7)]:List a7))++([e47]:List a7))))
     else
      if(decide (e47.Night>c.Night))=true then
       Option.bind (P4 c.From) fun x59=>
       gd ((out26.length+([(⟨c.Night,c.Ballot,c.Value,x59⟩:a7)]:List a7).length)*32≤140737488355328∧out26.length+([(⟨c.Night,c.Ballot,c.Value,x59⟩:a7)]:List a7).length≤9223372036854775807)<|
       gd (((out26++([(⟨c.Night,c.Ballot,c.Value,x59⟩:a7)]:List a7)).length+([e47]:List a7).length)*32≤140737488355328∧(out26++([(⟨c.Night,c.Ballot,c.Value,x59⟩:a7)]:List a7)).length+([e47]:List a7).length≤9223372036854775807)<|
       some (.inl (out18,true,(W (i20+1)),out21,out22,out23,out24,out25,((out26++([(⟨c.Night,c.Ballot,c.Value,x59⟩:a7)]:List a7))++([e47]:List a7))))
      else
       gd ((out26.length+([e47]:List a7).length)*32≤140737488355328∧out26.length+([e47]:List a7).length≤9223372036854775807)<|
       some (.inl (out18,done19,(W (i20+1)),out21,out22,out23,out24,out25,(out26++([e47]:List a7))))
    else
     gd ((out26.length+([e47]:List a7).length)*32≤140737488355328∧out26.length+([e47]:List a7).length≤9223372036854775807)<|
     some (.inl (out18,done19,(W (i20+1)),out21,out22,out23,out24,out25,(out26++([e47]:List a7))))
  else
   if(!done19)=true then
    if(decide (e47.Ballot>c.Ballot))=true then
     Option.bind (P4 c.From) fun x63=>
     gd ((out26.length+([(⟨c.Night,c.Ballot,c.Value,x63⟩:a7)]:List a7).length)*32≤140737488355328∧out26.length+([(⟨c.Night,c.Ballot,c.Value,x63⟩:a7)]:List a7).length≤9223372036854775807)<|
     gd (((out26++([(⟨c.Night,c.Ballot,c.Value,x63⟩:a7)]:List a7)).length+([e47]:List a7).length)*32≤140737488355328∧(out26++([(⟨c.Night,c.Ballot,c.Value,x63⟩:a7)]:List a7)).length+([e47]:List a7).length≤9223372036854775807)<|
     some (.inl (out18,true,(W (i20+1)),out21,out22,out23,out24,out25,((out26++([(⟨c.Night,c.Ballot,c.Value,x63⟩:a7)]:List a7))++([e47]:List a7))))
    else
     gd ((out26.length+([e47]:List a7).length)*32≤140737488355328∧out26.length+([e47]:List a7).length≤9223372036854775807)<|
     some (.inl (out18,done19,(W (i20+1)),out21,out22,out23,out24,out25,(out26++([e47]:List a7))))
   else
    gd ((out26.length+([e47]:List a7).length)*32≤140737488355328∧out26.length+([e47]:List a7).length≤9223372036854775807)<|
    some (.inl (out18,done19,(W (i20+1)),out21,out22,out23,out24,out25,(out26++([e47]:List a7))))
 else
  some (.inr (out18,done19,i20,out21,out22,out23,out24,out25,out26))
def a5n (s:b7) (c:b5):Option (b7×Bool):=
 Option.bind (j4 (P0 s c) ([],false,0, [], [], [], [], [], [])) fun(out65,done66,i67,out68,out69,out70,out71,out72,out73)=>
 if(!done66)=true then
  Option.bind (P4 c.From) fun x75=>
  gd ((out73.length+([(⟨c.Night,c.Ballot,c.Value,x75⟩:a7)]:List a7).length)*32≤140737488355328∧out73.length+([(⟨c.Night,c.Ballot,c.Value,x75⟩:a7)]:List a7).length≤9223372036854775807)<|
  some ((⟨s.Round,s.Slots,s.Bids,(out73++([(⟨c.Night,c.Ballot,c.Value,x75⟩:a7)]:List a7)),s.Leases,s.Loans⟩:b7),(decide (((out73++([(⟨c.Night,c.Ballot,c.Value,x75⟩:a7)]:List a7)).length:Int)≤60)))
 else
  some ((⟨s.Round,s.Slots,s.Bids,out73,s.Leases,s.Loans⟩:b7),(decide ((out73.length:Int)≤60)))
theorem b7h (s:b7) (c:b5) (r:(b7×Bool)) (hm:a5n s c=some r):d7 Tryz.prog 138 [.agg (b7.c s), .agg (b5.c c)] (fun x=>x= .tup [.agg (b7.c r.1),DB r.2]):=by
 refine zy c6I [] [] [] Tryz.func138 rfl ?_
 obtain⟨ev77,he,hk78⟩:=b9 hm
 refine c9k (P0 s c) (fun(out18,done19,i20,out21,out22,out23,out24,out25,out26)=>⟨[(2, .own 0 0),(3, .own 1 0),(4, .own 2 0),(6, .row 9 4),(7,DB done19),(8,DI i20)], [(0, .blk (b7.c s) 36),(1, .blk (b5.c c) 24),(2, .blk [DI 0,nS,nS,nS,nS,nS] 36),(3,rE 4 out18 a7.c 89),(4,rE 4 out21 a7.c 89),(5,rE 4 out22 a7.c 89),(6,rE 4 out23 a7.c 89),(7,rE 4 out24 a7.c 89),(8,rE 4 out25 a7.c 89),(9,rE 4 out26 a7.c 89)],10⟩) ([],false,0, [], [], [], [], [], []) (sb 3) he ?_
 rintro fu79 ⟨out18,done19,i20,out21,out22,out23,out24,out25,out26⟩ b hm hi80
 apply vb hm<;>intro _ hm
 refine ei hm fun e82 hm=> ?_
 apply vb hm<;>intro h84 hm
 apply vb hm<;>intro _ hm
 apply vb hm<;>intro _ hm
 refine⟨rfl, ?_⟩
 refine cy hm (a2k c.From) fun x87 hm=> ?_
 refine⟨([(⟨e82.Night,e82.Ballot,e82.Value,(W ((BitVec.ofInt IntKind.i64.bits e82.Mask|||BitVec.ofInt IntKind.i64.bits x87).toNat:Int))⟩:a7)]:List a7).flatMap a7.c,([(⟨e82.Night,e82.Ballot,e82.Value,(W ((BitVec.ofInt IntKind.i64.bits e82.Mask|||BitVec.ofInt IntKind.i64.bits x87).toNat:Int))⟩:a7)]:List a7).length,⟨rfl,rfl⟩, ?_⟩
 obtain⟨hg,hm⟩:=c7 hm
 refine⟨hg,_,_,c8 (c:=a7.c) (l:=(out26:List a7)) (r:=(([(⟨e82.Night,e82.Ballot,e82.Value,(W ((BitVec.ofInt IntKind.i64.bits e82.Mask|||BitVec.ofInt IntKind.i64.bits x87).toNat:Int))⟩:a7)]:List a7):List a7)), ?_⟩
 cases hm
 exact⟨(_,(out18,true,(W (i20+1)),out21,out22,out23,out24,out25,(out26++([(⟨e82.Night,e82.Ballot,e82.Value,(W ((BitVec.ofInt IntKind.i64.bits e82.Mask|||BitVec.ofInt IntKind.i64.bits x87).toNat:Int))⟩:a7)]:List a7)))),sb 10,hi80,Nat.lt_succ_self _⟩
 refine⟨([e82]:List a7).flatMap a7.c,([e82]:List a7).length,⟨rfl,rfl⟩, ?_⟩
 obtain⟨hg,hm⟩:=c7 hm
 refine⟨hg,_,_,c8 (c:=a7.c) (l:=(out26:List a7)) (r:=(([e82]:List a7):List a7)), ?_⟩
 cases hm
 exact⟨(_,(out18,true,(W (i20+1)),out21,out22,out23,out24,out25,(out26++([e82]:List a7)))),sb 10,hi80,Nat.lt_succ_self _⟩
 apply vb hm<;>intro _ hm
 apply vb hm<;>intro _ hm
 refine⟨rfl, ?_⟩
 refine cy hm (a2k c.From) fun x91 hm=> ?_
 refine⟨([(⟨c.Night,c.Ballot,c.Value,x91⟩:a7)]:List a7).flatMap a7.c,([(⟨c.Night,c.Ballot,c.Value,x91⟩:a7)]:List a7).length,⟨rfl,rfl⟩, ?_⟩
 obtain⟨hg,hm⟩:=c7 hm
 refine⟨hg,_,_,c8 (c:=a7.c) (l:=(out26:List a7)) (r:=(([(⟨c.Night,c.Ballot,c.Value,x91⟩:a7)]:List a7):List a7)), ?_⟩
 refine⟨([e82]:List a7).flatMap a7.c,([e82]:List a7).length,⟨rfl,rfl⟩, ?_⟩
 obtain⟨hg,hm⟩:=c7 hm
 refine⟨hg,_,_,c8 (c:=a7.c) (l:=((out26++([(⟨c.Night,c.Ballot,c.Value,x91⟩:a7)]:List a7)):List a7)) (r:=(([e82]:List a7):List a7)), ?_⟩
 cases hm
 exact⟨(_,(out18,true,(W (i20+1)),out21,out22,out23,out24,out25,((out26++([(⟨c.Night,c.Ballot,c.Value,x91⟩:a7)]:List a7))++([e82]:List a7)))),sb 10,hi80,Nat.lt_succ_self _⟩
 refine VIf.t h84 ?_
 apply vb hm<;>intro _ hm
 refine⟨rfl, ?_⟩
 refine cy hm (a2k c.From) fun x94 hm=> ?_
 refine⟨([(⟨c.Night,c.Ballot,c.Value,x94⟩:a7)]:List a7).flatMap a7.c,([(⟨c.Night,c.Ballot,c.Value,x94⟩:a7)]:List a7).length,⟨rfl,rfl⟩, ?_⟩
 obtain⟨hg,hm⟩:=c7 hm
 refine⟨hg,_,_,c8 (c:=a7.c) (l:=(out26:List a7)) (r:=(([(⟨c.Night,c.Ballot,c.Value,x94⟩:a7)]:List a7):List a7)), ?_⟩
 refine⟨([e82]:List a7).flatMap a7.c,([e82]:List a7).length,⟨rfl,rfl⟩, ?_⟩
 obtain⟨hg,hm⟩:=c7 hm
 refine⟨hg,_,_,c8 (c:=a7.c) (l:=((out26++([(⟨c.Night,c.Ballot,c.Value,x94⟩:a7)]:List a7)):List a7)) (r:=(([e82]:List a7):List a7)), ?_⟩
 cases hm
 exact⟨(_,(out18,true,(W (i20+1)),out21,out22,out23,out24,out25,((out26++([(⟨c.Night,c.Ballot,c.Value,x94⟩:a7)]:List a7))++([e82]:List a7)))),sb 10,hi80,Nat.lt_succ_self _⟩
 refine⟨([e82]:List a7).flatMap a7.c,([e82]:List a7).length,⟨rfl,rfl⟩, ?_⟩
 obtain⟨hg,hm⟩:=c7 hm
 refine⟨hg,_,_,c8 (c:=a7.c) (l:=(out26:List a7)) (r:=(([e82]:List a7):List a7)), ?_⟩
 cases hm
 exact⟨(_,(out18,done19,(W (i20+1)),out21,out22,out23,out24,out25,(out26++([e82]:List a7)))),sb 10,hi80,Nat.lt_succ_self _⟩
 refine⟨([e82]:List a7).flatMap a7.c,([e82]:List a7).length,⟨rfl,rfl⟩, ?_⟩
 obtain⟨hg,hm⟩:=c7 hm
 refine⟨hg,_,_,c8 (c:=a7.c) (l:=(out26:List a7)) (r:=(([e82]:List a7):List a7)), ?_⟩
 cases hm
 exact⟨(_,(out18,done19,(W (i20+1)),out21,out22,out23,out24,out25,(out26++([e82]:List a7)))),sb 10,hi80,Nat.lt_succ_self _⟩
 apply vb hm<;>intro _ hm
 apply vb hm<;>intro _ hm
 refine⟨rfl, ?_⟩
 refine cy hm (a2k c.From) fun x98 hm=> ?_
 refine⟨([(⟨c.Night,c.Ballot,c.Value,x98⟩:a7)]:List a7).flatMap a7.c,([(⟨c.Night,c.Ballot,c.Value,x98⟩:a7)]:List a7).length,⟨rfl,rfl⟩, ?_⟩
 obtain⟨hg,hm⟩:=c7 hm
 refine⟨hg,_,_,c8 (c:=a7.c) (l:=(out26:List a7)) (r:=(([(⟨c.Night,c.Ballot,c.Value,x98⟩:a7)]:List a7):List a7)), ?_⟩
 refine⟨([e82]:List a7).flatMap a7.c,([e82]:List a7).length,⟨rfl,rfl⟩, ?_⟩
 obtain⟨hg,hm⟩:=c7 hm
 refine⟨hg,_,_,c8 (c:=a7.c) (l:=((out26++([(⟨c.Night,c.Ballot,c.Value,x98⟩:a7)]:List a7)):List a7)) (r:=(([e82]:List a7):List a7)), ?_⟩
 cases hm
 exact⟨(_,(out18,true,(W (i20+1)),out21,out22,out23,out24,out25,((out26++([(⟨c.Night,c.Ballot,c.Value,x98⟩:a7)]:List a7))++([e82]:List a7)))),sb 10,hi80,Nat.lt_succ_self _⟩
 refine VIf.f h84 ?_
 refine⟨([e82]:List a7).flatMap a7.c,([e82]:List a7).length,⟨rfl,rfl⟩, ?_⟩
 obtain⟨hg,hm⟩:=c7 hm
 refine⟨hg,_,_,c8 (c:=a7.c) (l:=(out26:List a7)) (r:=(([e82]:List a7):List a7)), ?_⟩
 cases hm
 exact⟨(_,(out18,done19,(W (i20+1)),out21,out22,out23,out24,out25,(out26++([e82]:List a7)))),sb 10,hi80,Nat.lt_succ_self _⟩
 refine⟨([e82]:List a7).flatMap a7.c,([e82]:List a7).length,⟨rfl,rfl⟩, ?_⟩
 obtain⟨hg,hm⟩:=c7 hm
 refine⟨hg,_,_,c8 (c:=a7.c) (l:=(out26:List a7)) (r:=(([e82]:List a7):List a7)), ?_⟩
 cases hm
 exact⟨(_,(out18,done19,(W (i20+1)),out21,out22,out23,out24,out25,(out26++([e82]:List a7)))),sb 10,hi80,Nat.lt_succ_self _⟩
 cases hm
 cases hi80
 have hm:=hk78
 apply vb hm<;>intro _ hm
 refine⟨rfl, ?_⟩
 refine cy hm (a2k c.From) fun x101 hm=> ?_
 refine⟨([(⟨c.Night,c.Ballot,c.Value,x101⟩:a7)]:List a7).flatMap a7.c,([(⟨c.Night,c.Ballot,c.Value,x101⟩:a7)]:List a7).length,⟨rfl,rfl⟩, ?_⟩
 obtain⟨hg,hm⟩:=c7 hm
 refine⟨hg,_,_,c8 (c:=a7.c) (l:=(out26:List a7)) (r:=(([(⟨c.Night,c.Ballot,c.Value,x101⟩:a7)]:List a7):List a7)), ?_⟩
 cases hm
 exact c9j (c9h _)
 cases hm
 exact c9j (c9h _)
def A4 (s:b7) (c:b5):((List b6)×Bool×Int×(List b6)×(List b6)×(List b6)×(List b6))→Option (Sum ((List b6)×Bool×Int×(List b6)×(List b6)×(List b6)×(List b6)) (Sum ((List b6)×Bool×Int×(List b6)×(List b6)×(List b6)×(List b6)) (b7×Bool))):=fun(out9,done10,i11,out12,out13,out14,out15)=>
 if(decide (i11<(s.Loans.length:Int)))=true then
  Option.bind (idx s.Loans i11) fun e27=>
  if(e27.Owner==c.From)=true then
   if(e27.No==c.No)=true then
    some (.inr (.inr (s,true)))
   else
    if(!done10)=true then
     if(decide (e27.Owner>c.From))=true then
      gd ((out15.length+([(⟨c.From,c.No,c.Thing,c.Start,c.Until,false⟩:b6)]:List b6).length)*48≤140737488355328∧out15.length+([(⟨c.From,c.No,c.Thing,c.Start,c.Until,false⟩:b6)]:List b6).length≤9223372036854775807)<|
      gd (((out15++([(⟨c.From,c.No,c.Thing,c.Start,c.Until,false⟩:b6)]:List b6)).length+([e27]:List b6).length)*48≤140737488355328∧(out15++([(⟨c.From,c.No,c.Thing,c.Start,c.Until,false⟩:b6)]:List b6)).length+([e27]:List b6).length≤9223372036854775807)<|
      some (.inl (out9,true,(W (i11+1)),out12,out13,out14,((out15++([(⟨c.From,c.No,c.Thing,c.Start,c.Until,false⟩:b6)]:List b6))++([e27]:List b6))))
     else
      if(decide (e27.No>c.No))=true then
       gd ((out15.length+([(⟨c.From,c.No,c.Thing,c.Start,c.Until,false⟩:b6)]:List b6).length)*48≤140737488355328∧out15.length+([(⟨c.From,c.No,c.Thing,c.Start,c.Until,false⟩:b6)]:List b6).length≤9223372036854775807)<|
       gd (((out15++([(⟨c.From,c.No,c.Thing,c.Start,c.Until,false⟩:b6)]:List b6)).length+([e27]:List b6).length)*48≤140737488355328∧(out15++([(⟨c.From,c.No,c.Thing,c.Start,c.Until,false⟩:b6)]:List b6)).length+([e27]:List b6).length≤9223372036854775807)<|
       some (.inl (out9,true,(W (i11+1)),out12,out13,out14,((out15++([(⟨c.From,c.No,c.Thing,c.Start,c.Until,false⟩:b6)]:List b6))++([e27]:List b6))))
      else
       gd ((out15.length+([e27]:List b6).length)*48≤140737488355328∧out15.length+([e27]:List b6).length≤9223372036854775807)<|
       some (.inl (out9,done10,(W (i11+1)),out12,out13,out14,(out15++([e27]:List b6))))
    else
     gd ((out15.length+([e27]:List b6).length)*48≤140737488355328∧out15.length+([e27]:List b6).length≤9223372036854775807)<|
     some (.inl (out9,done10,(W (i11+1)),out12,out13,out14,(out15++([e27]:List b6))))
  else
   if(!done10)=true then
    if(decide (e27.Owner>c.From))=true then
     gd ((out15.length+([(⟨c.From,c.No,c.Thing,c.Start,c.Until,false⟩:b6)]:List b6).length)*48≤140737488355328∧out15.length+([(⟨c.From,c.No,c.Thing,c.Start,c.Until,false⟩:b6)]:List b6).length≤9223372036854775807)<|
     gd (((out15++([(⟨c.From,c.No,c.Thing,c.Start,c.Until,false⟩:b6)]:List b6)).length+([e27]:List b6).length)*48≤140737488355328∧(out15++([(⟨c.From,c.No,c.Thing,c.Start,c.Until,false⟩:b6)]:List b6)).length+([e27]:List b6).length≤9223372036854775807)<|
     some (.inl (out9,true,(W (i11+1)),out12,out13,out14,((out15++([(⟨c.From,c.No,c.Thing,c.Start,c.Until,false⟩:b6)]:List b6))++([e27]:List b6))))
    else
     gd ((out15.length+([e27]:List b6).length)*48≤140737488355328∧out15.length+([e27]:List b6).length≤9223372036854775807)<|
     some (.inl (out9,done10,(W (i11+1)),out12,out13,out14,(out15++([e27]:List b6))))
   else
    gd ((out15.length+([e27]:List b6).length)*48≤140737488355328∧out15.length+([e27]:List b6).length≤9223372036854775807)<|
    some (.inl (out9,done10,(W (i11+1)),out12,out13,out14,(out15++([e27]:List b6))))
 else
  some (.inr (.inl (out9,done10,i11,out12,out13,out14,out15)))
def a3y (s:b7) (c:b5):Option (b7×Bool):=
 Option.bind (j4 (A4 s c) ([],false,0, [], [], [], [])) fun e=>
 match e with
 | .inl (out36,done37,i38,out39,out40,out41,out42)=>
  if(!done37)=true then
   gd ((out42.length+([(⟨c.From,c.No,c.Thing,c.Start,c.Until,false⟩:b6)]:List b6).length)*48≤140737488355328∧out42.length+([(⟨c.From,c.No,c.Thing,c.Start,c.Until,false⟩:b6)]:List b6).length≤9223372036854775807)<|
   some ((⟨s.Round,s.Slots,s.Bids,s.Heard,s.Leases,(out42++([(⟨c.From,c.No,c.Thing,c.Start,c.Until,false⟩:b6)]:List b6))⟩:b7),(decide (((out42++([(⟨c.From,c.No,c.Thing,c.Start,c.Until,false⟩:b6)]:List b6)).length:Int)≤60)))
  else
   some ((⟨s.Round,s.Slots,s.Bids,s.Heard,s.Leases,out42⟩:b7),(decide ((out42.length:Int)≤60)))
 | .inr rr44=>
  some rr44
theorem b4k (s:b7) (c:b5) (r:(b7×Bool)) (hm:a3y s c=some r):d7 Tryz.prog 139 [.agg (b7.c s), .agg (b5.c c)] (fun x=>x= .tup [.agg (b7.c r.1),DB r.2]):=by
 refine zn Tryz.func139 rfl ?_
 obtain⟨ev45,he,hk46⟩:=b9 hm
 refine c9k (A4 s c) (fun(out9,done10,i11,out12,out13,out14,out15)=>⟨[(2, .own 0 0),(4, .own 2 0),(6, .own 3 0),(7, .row 8 6),(8,DB done10),(9,DI i11)], [(0, .blk (b7.c s) 36),(2, .blk [DI 0,nS,nS,nS,nS,nS] 36),(3, .blk [DI c.From,DI c.No,DI c.Thing,DI c.Start,DI c.Until,DB false] 78),(4,rE 6 out9 b6.c 78),(5,rE 6 out12 b6.c 78),(6,rE 6 out13 b6.c 78),(7,rE 6 out14 b6.c 78),(8,rE 6 out15 b6.c 78)],9⟩) ([],false,0, [], [], [], []) (sb 4) he ?_
 rintro fu47 ⟨out9,done10,i11,out12,out13,out14,out15⟩ b hm hi48
 apply vb hm<;>intro _ hm
 refine ei hm fun e50 hm=> ?_
 apply vb hm<;>intro h52 hm
 apply vb hm<;>intro _ hm
 cases hm
 cases hi48
 have hm:=hk46
 cases hm
 exact c9j (c9h _)
 apply vb hm<;>intro _ hm
 apply vb hm<;>intro _ hm
 refine⟨([(⟨c.From,c.No,c.Thing,c.Start,c.Until,false⟩:b6)]:List b6).flatMap b6.c,([(⟨c.From,c.No,c.Thing,c.Start,c.Until,false⟩:b6)]:List b6).length,⟨rfl,rfl⟩, ?_⟩
 obtain⟨hg,hm⟩:=c7 hm
 refine⟨hg,_,_,c8 (c:=b6.c) (l:=(out15:List b6)) (r:=(([(⟨c.From,c.No,c.Thing,c.Start,c.Until,false⟩:b6)]:List b6):List b6)), ?_⟩
 refine⟨([e50]:List b6).flatMap b6.c,([e50]:List b6).length,⟨rfl,rfl⟩, ?_⟩
 obtain⟨hg,hm⟩:=c7 hm
 refine⟨hg,_,_,c8 (c:=b6.c) (l:=((out15++([(⟨c.From,c.No,c.Thing,c.Start,c.Until,false⟩:b6)]:List b6)):List b6)) (r:=(([e50]:List b6):List b6)), ?_⟩
 cases hm
 exact⟨(_,(out9,true,(W (i11+1)),out12,out13,out14,((out15++([(⟨c.From,c.No,c.Thing,c.Start,c.Until,false⟩:b6)]:List b6))++([e50]:List b6)))),sb 9,hi48,Nat.lt_succ_self _⟩
 refine VIf.t h52 ?_
 apply vb hm<;>intro _ hm
 refine⟨([(⟨c.From,c.No,c.Thing,c.Start,c.Until,false⟩:b6)]:List b6).flatMap b6.c,([(⟨c.From,c.No,c.Thing,c.Start,c.Until,false⟩:b6)]:List b6).length,⟨rfl,rfl⟩, ?_⟩
 obtain⟨hg,hm⟩:=c7 hm
 refine⟨hg,_,_,c8 (c:=b6.c) (l:=(out15:List b6)) (r:=(([(⟨c.From,c.No,c.Thing,c.Start,c.Until,false⟩:b6)]:List b6):List b6)), ?_⟩
 refine⟨([e50]:List b6).flatMap b6.c,([e50]:List b6).length,⟨rfl,rfl⟩, ?_⟩
 obtain⟨hg,hm⟩:=c7 hm
 refine⟨hg,_,_,c8 (c:=b6.c) (l:=((out15++([(⟨c.From,c.No,c.Thing,c.Start,c.Until,false⟩:b6)]:List b6)):List b6)) (r:=(([e50]:List b6):List b6)), ?_⟩
 cases hm
 exact⟨(_,(out9,true,(W (i11+1)),out12,out13,out14,((out15++([(⟨c.From,c.No,c.Thing,c.Start,c.Until,false⟩:b6)]:List b6))++([e50]:List b6)))),sb 9,hi48,Nat.lt_succ_self _⟩
 refine⟨([e50]:List b6).flatMap b6.c,([e50]:List b6).length,⟨rfl,rfl⟩, ?_⟩
 obtain⟨hg,hm⟩:=c7 hm
 refine⟨hg,_,_,c8 (c:=b6.c) (l:=(out15:List b6)) (r:=(([e50]:List b6):List b6)), ?_⟩
 cases hm
 exact⟨(_,(out9,done10,(W (i11+1)),out12,out13,out14,(out15++([e50]:List b6)))),sb 9,hi48,Nat.lt_succ_self _⟩
 refine⟨([e50]:List b6).flatMap b6.c,([e50]:List b6).length,⟨rfl,rfl⟩, ?_⟩
 obtain⟨hg,hm⟩:=c7 hm
 refine⟨hg,_,_,c8 (c:=b6.c) (l:=(out15:List b6)) (r:=(([e50]:List b6):List b6)), ?_⟩
 cases hm
 exact⟨(_,(out9,done10,(W (i11+1)),out12,out13,out14,(out15++([e50]:List b6)))),sb 9,hi48,Nat.lt_succ_self _⟩
 apply vb hm<;>intro _ hm
 apply vb hm<;>intro _ hm
 refine⟨([(⟨c.From,c.No,c.Thing,c.Start,c.Until,false⟩:b6)]:List b6).flatMap b6.c,([(⟨c.From,c.No,c.Thing,c.Start,c.Until,false⟩:b6)]:List b6).length,⟨rfl,rfl⟩, ?_⟩
 obtain⟨hg,hm⟩:=c7 hm
 refine⟨hg,_,_,c8 (c:=b6.c) (l:=(out15:List b6)) (r:=(([(⟨c.From,c.No,c.Thing,c.Start,c.Until,false⟩:b6)]:List b6):List b6)), ?_⟩
 refine⟨([e50]:List b6).flatMap b6.c,([e50]:List b6).length,⟨rfl,rfl⟩, ?_⟩
 obtain⟨hg,hm⟩:=c7 hm
 refine⟨hg,_,_,c8 (c:=b6.c) (l:=((out15++([(⟨c.From,c.No,c.Thing,c.Start,c.Until,false⟩:b6)]:List b6)):List b6)) (r:=(([e50]:List b6):List b6)), ?_⟩
 cases hm
 exact⟨(_,(out9,true,(W (i11+1)),out12,out13,out14,((out15++([(⟨c.From,c.No,c.Thing,c.Start,c.Until,false⟩:b6)]:List b6))++([e50]:List b6)))),sb 9,hi48,Nat.lt_succ_self _⟩
 refine VIf.f h52 ?_
 refine⟨([e50]:List b6).flatMap b6.c,([e50]:List b6).length,⟨rfl,rfl⟩, ?_⟩
 obtain⟨hg,hm⟩:=c7 hm
 refine⟨hg,_,_,c8 (c:=b6.c) (l:=(out15:List b6)) (r:=(([e50]:List b6):List b6)), ?_⟩
 cases hm
 exact⟨(_,(out9,done10,(W (i11+1)),out12,out13,out14,(out15++([e50]:List b6)))),sb 9,hi48,Nat.lt_succ_self _⟩
 refine⟨([e50]:List b6).flatMap b6.c,([e50]:List b6).length,⟨rfl,rfl⟩, ?_⟩
 obtain⟨hg,hm⟩:=c7 hm
 refine⟨hg,_,_,c8 (c:=b6.c) (l:=(out15:List b6)) (r:=(([e50]:List b6):List b6)), ?_⟩
 cases hm
 exact⟨(_,(out9,done10,(W (i11+1)),out12,out13,out14,(out15++([e50]:List b6)))),sb 9,hi48,Nat.lt_succ_self _⟩
 cases hm
 cases hi48
 have hm:=hk46
 apply vb hm<;>intro _ hm
 refine⟨([(⟨c.From,c.No,c.Thing,c.Start,c.Until,false⟩:b6)]:List b6).flatMap b6.c,([(⟨c.From,c.No,c.Thing,c.Start,c.Until,false⟩:b6)]:List b6).length,⟨rfl,rfl⟩, ?_⟩
 obtain⟨hg,hm⟩:=c7 hm
 refine⟨hg,_,_,c8 (c:=b6.c) (l:=(out15:List b6)) (r:=(([(⟨c.From,c.No,c.Thing,c.Start,c.Until,false⟩:b6)]:List b6):List b6)), ?_⟩
 cases hm
 exact c9j (c9h _)
 cases hm
 exact c9j (c9h _)
def A6 (c:b5) (x8:a6):((List a8)×Int×Int×(List a8)×(List a8)×(List a8))→Option (Sum ((List a8)×Int×Int×(List a8)×(List a8)×(List a8)) ((List a8)×Int×Int×(List a8)×(List a8)×(List a8))):=fun(out638,at_639,i640,out641,out642,out643)=>
 if(decide (i640<(x8.Now.Slots.length:Int)))=true then
  if(decide (at_639<0))=true then
   Option.bind (idx x8.Now.Slots i640) fun e692=>
   Option.bind (idx x8.Now.Slots i640) fun e694=>
   if(decide (e694.Night>c.Night))=true then
    gd ((out643.length+([(⟨c.Night,0,0,0⟩:a8)]:List a8).length)*32≤140737488355328∧out643.length+([(⟨c.Night,0,0,0⟩:a8)]:List a8).length≤9223372036854775807)<|
    Option.bind (idx x8.Now.Slots i640) fun e697=>
    Option.bind (idx x8.Now.Slots i640) fun e699=>
    if(e699.Night==c.Night)=true then
     Option.bind (idx x8.Now.Slots i640) fun e702=>
     Option.bind (idx x8.Now.Slots i640) fun e704=>
     gd (((out643++([(⟨c.Night,0,0,0⟩:a8)]:List a8)).length+([e704]:List a8).length)*32≤140737488355328∧(out643++([(⟨c.Night,0,0,0⟩:a8)]:List a8)).length+([e704]:List a8).length≤9223372036854775807)<|
     some (.inl (out638,((out643++([(⟨c.Night,0,0,0⟩:a8)]:List a8)).length:Int),(W (i640+1)),out641,out642,((out643++([(⟨c.Night,0,0,0⟩:a8)]:List a8))++([e704]:List a8))))
    else
     Option.bind (idx x8.Now.Slots i640) fun e706=>
     Option.bind (idx x8.Now.Slots i640) fun e708=>
     gd (((out643++([(⟨c.Night,0,0,0⟩:a8)]:List a8)).length+([e708]:List a8).length)*32≤140737488355328∧(out643++([(⟨c.Night,0,0,0⟩:a8)]:List a8)).length+([e708]:List a8).length≤9223372036854775807)<|
     some (.inl (out638,(out643.length:Int),(W (i640+1)),out641,out642,((out643++([(⟨c.Night,0,0,0⟩:a8)]:List a8))++([e708]:List a8))))
   else
    Option.bind (idx x8.Now.Slots i640) fun e710=>
    Option.bind (idx x8.Now.Slots i640) fun e712=>
    if(e712.Night==c.Night)=true then
     Option.bind (idx x8.Now.Slots i640) fun e715=>
     Option.bind (idx x8.Now.Slots i640) fun e717=>
     gd ((out643.length+([e717]:List a8).length)*32≤140737488355328∧out643.length+([e717]:List a8).length≤9223372036854775807)<|
     some (.inl (out638,(out643.length:Int),(W (i640+1)),out641,out642,(out643++([e717]:List a8))))
    else
     Option.bind (idx x8.Now.Slots i640) fun e719=>
     Option.bind (idx x8.Now.Slots i640) fun e721=>
     gd ((out643.length+([e721]:List a8).length)*32≤140737488355328∧out643.length+([e721]:List a8).length≤9223372036854775807)<|
     some (.inl (out638,at_639,(W (i640+1)),out641,out642,(out643++([e721]:List a8))))
  else
   Option.bind (idx x8.Now.Slots i640) fun e723=>
   Option.bind (idx x8.Now.Slots i640) fun e725=>
   if(e725.Night==c.Night)=true then
    Option.bind (idx x8.Now.Slots i640) fun e728=>
    Option.bind (idx x8.Now.Slots i640) fun e730=>
    gd ((out643.length+([e730]:List a8).length)*32≤140737488355328∧out643.length+([e730]:List a8).length≤9223372036854775807)<|
    some (.inl (out638,(out643.length:Int),(W (i640+1)),out641,out642,(out643++([e730]:List a8))))
   else
    Option.bind (idx x8.Now.Slots i640) fun e732=>
    Option.bind (idx x8.Now.Slots i640) fun e734=>
    gd ((out643.length+([e734]:List a8).length)*32≤140737488355328∧out643.length+([e734]:List a8).length≤9223372036854775807)<|
    some (.inl (out638,at_639,(W (i640+1)),out641,out642,(out643++([e734]:List a8))))
 else
  some (.inr (out638,at_639,i640,out641,out642,out643))
def a0G (c:b5) (x8:a6):Option ((List a8)×Int):=
 Option.bind (j4 (A6 c x8) ([],(-1),0, [], [], [])) fun(out736,at_737,i738,out739,out740,out741)=>
 if(decide (at_737<0))=true then
  gd ((out741.length+([(⟨c.Night,0,0,0⟩:a8)]:List a8).length)*32≤140737488355328∧out741.length+([(⟨c.Night,0,0,0⟩:a8)]:List a8).length≤9223372036854775807)<|
  some ((out741++([(⟨c.Night,0,0,0⟩:a8)]:List a8)),(out741.length:Int))
 else
  some (out741,at_737)
def Y1 (c:b5):(Int×(List c0))→Option (Sum (Int×(List c0)) (Int×(List c0))):=fun(i1500,v1501)=>
 if(decide (i1500<(v1501.length:Int)))=true then
  Option.bind (idx v1501 i1500) fun e1529=>
  Option.bind (idx v1501 i1500) fun e1531=>
  if(e1531.Night !=c.Night)=true then
   some (.inl ((W (i1500+1)),v1501))
  else
   if(e1531.Ballot !=c.Ballot)=true then
    some (.inl ((W (i1500+1)),v1501))
   else
    if e1531.Asked=true then
     some (.inl ((W (i1500+1)),v1501))
    else
     Option.bind (P4 c.From) fun x1536=>
     if((W ((BitVec.ofInt IntKind.i64.bits e1531.Mask&&&BitVec.ofInt IntKind.i64.bits x1536).toNat:Int)) !=0)=true then
      some (.inl ((W (i1500+1)),v1501))
     else
      Option.bind (P4 c.From) fun x1539=>
      if(decide (c.Best>e1531.Best))=true then
       Option.bind (M4 (W ((BitVec.ofInt IntKind.i64.bits e1531.Mask|||BitVec.ofInt IntKind.i64.bits x1539).toNat:Int))) fun x1542=>
       Option.bind (idx v1501 i1500) fun e1544=>
       Option.bind (idx v1501 i1500) fun e1546=>
       some (.inl ((W (i1500+1)),(v1501.set i1500.toNat (⟨e1531.Night,e1531.Ballot,c.Value,c.Best,(W ((BitVec.ofInt IntKind.i64.bits e1531.Mask|||BitVec.ofInt IntKind.i64.bits x1539).toNat:Int)),x1542⟩:c0))))
      else
       Option.bind (M4 (W ((BitVec.ofInt IntKind.i64.bits e1531.Mask|||BitVec.ofInt IntKind.i64.bits x1539).toNat:Int))) fun x1548=>
       Option.bind (idx v1501 i1500) fun e1550=>
       Option.bind (idx v1501 i1500) fun e1552=>
       some (.inl ((W (i1500+1)),(v1501.set i1500.toNat (⟨e1531.Night,e1531.Ballot,e1531.Value,e1531.Best,(W ((BitVec.ofInt IntKind.i64.bits e1531.Mask|||BitVec.ofInt IntKind.i64.bits x1539).toNat:Int)),x1548⟩:c0))))
 else
  some (.inr (i1500,v1501))
def Z3 (c:b5):(Int×(List b8))→Option (Sum (Int×(List b8)) (Int×(List b8))):=fun(i1606,v1607)=>
 if(decide (i1606<(v1607.length:Int)))=true then
  Option.bind (idx v1607 i1606) fun e1621=>
  Option.bind (idx v1607 i1606) fun e1623=>
  if(e1623.No==c.No)=true then
   if(e1623.Thing==c.Thing)=true then
    if(e1623.To==c.From)=true then
     Option.bind (idx v1607 i1606) fun e1628=>
     Option.bind (idx v1607 i1606) fun e1630=>
     some (.inl ((W (i1606+1)),(v1607.set i1606.toNat (⟨e1630.No,e1630.Thing,e1630.To,e1630.From,(if(if e1623.From>c.Until then e1623.From else c.Until)<e1623.Until then(if e1623.From>c.Until then e1623.From else c.Until)else e1623.Until)⟩:b8))))
    else
     some (.inl ((W (i1606+1)),v1607))
   else
    some (.inl ((W (i1606+1)),v1607))
  else
   some (.inl ((W (i1606+1)),v1607))
 else
  some (.inr (i1606,v1607))
def a8K (c:b5) (x8:a6):Option (Sum ((List a8)×Int×Bool) (Sum ((List c0)×(List b8)×Int) ((List a8)×(List c0)×(List a7)×(List b8)×(List b6)×Int×(List a8)×(List c0)×(List a7)×(List b8)×(List b6)×Bool))):=
 if(c.Kind==1)=true then
  Option.bind (a0G c x8) fun⟨v604,x605⟩=>
  Option.bind (idx v604 x605) fun e796=>
  Option.bind (idx v604 x605) fun e798=>
  Option.bind (idx v604 x605) fun e800=>
  Option.bind (idx v604 x605) fun e802=>
  some (.inl ((v604.set x605.toNat (⟨e802.Night,(if c.Ballot>e798.Promised then c.Ballot else e798.Promised),e802.Ballot,e802.Value⟩:a8)),x8.Now.Round,(decide ((v604.length:Int)≤12))))
 else
  if(c.Kind==3)=true then
   Option.bind (a0G c x8) fun⟨v1084,x1085⟩=>
   Option.bind (idx v1084 x1085) fun e1276=>
   Option.bind (idx v1084 x1085) fun e1278=>
   if(decide (c.Ballot≥e1278.Promised))=true then
    Option.bind (idx v1084 x1085) fun e1281=>
    Option.bind (idx v1084 x1085) fun e1283=>
    some (.inl ((v1084.set x1085.toNat (⟨c.Night,c.Ballot,c.Ballot,c.Value⟩:a8)),x8.Now.Round,(decide ((v1084.length:Int)≤12))))
   else
    some (.inl (v1084,x8.Now.Round,(decide ((v1084.length:Int)≤12))))
  else
   if(c.Kind==2)=true then
    Option.bind (j4 (Y1 c) (0,x8.Now.Bids)) fun(i1554,v1555)=>
    some (.inr (.inl (v1555,x8.Now.Leases,x8.Now.Round)))
   else
    if(c.Kind==4)=true then
     Option.bind (a5n x8.Now c) fun⟨x1587,x1588⟩=>
     some (.inr (.inr (x8.Now.Slots,x8.Now.Bids,x8.Now.Heard,x8.Now.Leases,x8.Now.Loans,x1587.Round,x1587.Slots,x1587.Bids,x1587.Heard,x1587.Leases,x1587.Loans,x1588)))
    else
     if(c.Kind==5)=true then
      Option.bind (a3y x8.Now c) fun⟨x1591,x1592⟩=>
      some (.inr (.inr (x8.Now.Slots,x8.Now.Bids,x8.Now.Heard,x8.Now.Leases,x8.Now.Loans,x1591.Round,x1591.Slots,x1591.Bids,x1591.Heard,x1591.Leases,x1591.Loans,x1592)))
     else
      Option.bind (j4 (Z3 c) (0,x8.Now.Leases)) fun(i1632,v1633)=>
      some (.inr (.inl (x8.Now.Bids,v1633,x8.Now.Round)))
def a6p (x:a6) (c:b5):Option (a6×Int):=
 Option.bind (Q9 x) fun x1=>
 if(x1 !=0)=true then
  some ((⟨0,(⟨0, [], [], [], [], []⟩:b7),(⟨0, [], [], [], [], []⟩:b7)⟩:a6),90)
 else
  Option.bind (a1G c) fun x4=>
  if(x4 !=0)=true then
   some ((⟨0,(⟨0, [], [], [], [], []⟩:b7),(⟨0, [], [], [], [], []⟩:b7)⟩:a6),91)
  else
   if(c.To !=x.Me)=true then
    some ((⟨0,(⟨0, [], [], [], [], []⟩:b7),(⟨0, [], [], [], [], []⟩:b7)⟩:a6),91)
   else
    Option.bind (R0 x) fun x8=>
    Option.bind (a8K c x8) fun e=>
    match e with
    | .inl (v494,x495,x496)=>
     if(!x496)=true then
      some ((⟨0,(⟨0, [], [], [], [], []⟩:b7),(⟨0, [], [], [], [], []⟩:b7)⟩:a6),2)
     else
      some ((⟨x8.Me,(⟨x495,v494,x8.Now.Bids,x8.Now.Heard,x8.Now.Leases,x8.Now.Loans⟩:b7),x8.Safe⟩:a6),0)
    | .inr (.inl (v497,v498,x499))=>
     some ((⟨x8.Me,(⟨x499,x8.Now.Slots,v497,x8.Now.Heard,v498,x8.Now.Loans⟩:b7),x8.Safe⟩:a6),0)
    | .inr (.inr (x500,x501,x502,x503,x504,x505,x506,x507,x508,x509,x510,x511))=>
     if(!x511)=true then
      some ((⟨0,(⟨0, [], [], [], [], []⟩:b7),(⟨0, [], [], [], [], []⟩:b7)⟩:a6),2)
     else
      some ((⟨x8.Me,(⟨x505,x506,x507,x508,x509,x510⟩:b7),x8.Safe⟩:a6),0)
theorem b8E (x:a6) (c:b5) (r:(a6×Int)) (hm:a6p x c=some r):d7 Tryz.prog 47 [.agg (a6.c x), .agg (b5.c c)] (fun x=>x= .tup [.agg (a6.c r.1),DI r.2]):=by
 refine zy [] [51,76,144,145,173] [82] [89,135] Tryz.func47 rfl ?_
 refine cy hm (a0V x) fun x1 hm=> ?_
 apply vb hm<;>intro _ hm
 cases hm
 exact c9j (le1)
 refine cy hm (b1M c) fun x4 hm=> ?_
 apply vb hm<;>intro _ hm
 cases hm
 exact c9j (le1)
 apply vb hm<;>intro _ hm
 cases hm
 exact c9j (le1)
 obtain⟨x8,hx9,hm⟩:=b9 hm
 refine .inr (a4O.mk ⟨_,_,a4N x _ hx9, ?_⟩)
 obtain⟨ev1650,he1651,hm⟩:=b9 hm
 refine M2.ofZ pok ⟨[(0, .agg [DI x8.Now.Round, .row 3 4, .row 4 6, .row 5 4, .row 6 5, .row 7 6]),(1, .agg (b5.c c)),(1000004, .own 2 0),(1000006, .own 13 0)], [(2, .blk [DI 0,DI 0,nS,nS,nS,nS,nS,DI 0,nS,nS,nS,nS,nS] 38),(3,rE 4 x8.Now.Slots a8.c 87),(4,rE 6 x8.Now.Bids c0.c 67),(5,rE 4 x8.Now.Heard a7.c 89),(6,rE 5 x8.Now.Leases b8.c 73),(7,rE 6 x8.Now.Loans b6.c 78),(8,rE 4 x8.Safe.Slots a8.c 87),(9,rE 6 x8.Safe.Bids c0.c 67),(10,rE 4 x8.Safe.Heard a7.c 89),(11,rE 5 x8.Safe.Leases b8.c 73),(12,rE 6 x8.Safe.Loans b6.c 78),(13, .blk [DI x8.Me,DI x8.Now.Round, .row 3 4, .row 4 6, .row 5 4, .row 6 5, .row 7 6,DI x8.Safe.Round, .row 8 4, .row 9 6, .row 10 4, .row 11 5, .row 12 6] 38)],14⟩ (match ev1650 with| .inl (v494,x495,x496)=>(⟨[(4, .own 2 0),(6, .own 13 0),(30, .tup [.agg [DI x495, .row 20 4, .row 4 6, .row 5 4, .row 6 5, .row 7 6],DB x496])], [(2, .blk [DI 0,DI 0,nS,nS,nS,nS,nS,DI 0,nS,nS,nS,nS,nS] 38),(3,rE 4 x8.Now.Slots a8.c 87),(4,rE 6 x8.Now.Bids c0.c 67),(5,rE 4 x8.Now.Heard a7.c 89),(6,rE 5 x8.Now.Leases b8.c 73),(7,rE 6 x8.Now.Loans b6.c 78),(8,rE 4 x8.Safe.Slots a8.c 87),(9,rE 6 x8.Safe.Bids c0.c 67),(10,rE 4 x8.Safe.Heard a7.c 89),(11,rE 5 x8.Safe.Leases b8.c 73),(12,rE 6 x8.Safe.Loans b6.c 78),(13, .blk [DI x8.Me,DI x8.Now.Round, .row 3 4, .row 4 6, .row 5 4, .row 6 5, .row 7 6,DI x8.Safe.Round, .row 8 4, .row 9 6, .row 10 4, .row 11 5, .row 12 6] 38),(20,rE 4 v494 a8.c 87)],21⟩:Sy)| .inr (.inl (v497,v498,x499))=>(⟨[(4, .own 2 0),(6, .own 13 0),(30, .tup [.agg [DI x499, .row 3 4, .row 4 6, .row 5 4, .row 6 5, .row 7 6],DB true])], [(2, .blk [DI 0,DI 0,nS,nS,nS,nS,nS,DI 0,nS,nS,nS,nS,nS] 38),(3,rE 4 x8.Now.Slots a8.c 87),(4,rE 6 v497 c0.c 67),(5,rE 4 x8.Now.Heard a7.c 89),(6,rE 5 v498 b8.c 73),(7,rE 6 x8.Now.Loans b6.c 78),(8,rE 4 x8.Safe.Slots a8.c 87),(9,rE 6 x8.Safe.Bids c0.c 67),(10,rE 4 x8.Safe.Heard a7.c 89),(11,rE 5 x8.Safe.Leases b8.c 73),(12,rE 6 x8.Safe.Loans b6.c 78),(13, .blk [DI x8.Me,DI x8.Now.Round, .row 3 4, .row 4 6, .row 5 4, .row 6 5, .row 7 6,DI x8.Safe.Round, .row 8 4, .row 9 6, .row 10 4, .row 11 5, .row 12 6] 38)],14⟩:Sy)| .inr (.inr (x500,x501,x502,x503,x504,x505,x506,x507,x508,x509,x510,x511))=>(⟨[(4, .own 2 0),(6, .own 13 0),(30, .tup [.agg [DI x505,lD 4 x506 a8.c,lD 6 x507 c0.c,lD 4 x508 a7.c,lD 5 x509 b8.c,lD 6 x510 b6.c],DB x511])], [(2, .blk [DI 0,DI 0,nS,nS,nS,nS,nS,DI 0,nS,nS,nS,nS,nS] 38),(8,rE 4 x8.Safe.Slots a8.c 87),(9,rE 6 x8.Safe.Bids c0.c 67),(10,rE 4 x8.Safe.Heard a7.c 89),(11,rE 5 x8.Safe.Leases b8.c 73),(12,rE 6 x8.Safe.Loans b6.c 78),(13, .blk [DI x8.Me,DI x8.Now.Round,lD 4 x500 a8.c,lD 6 x501 c0.c,lD 4 x502 a7.c,lD 5 x503 b8.c,lD 6 x504 b6.c,DI x8.Safe.Round, .row 8 4, .row 9 6, .row 10 4, .row 11 5, .row 12 6] 38)],14⟩:Sy):Sy) c8B [51,76,144,145,173] [82] [89,135] Tryz.func89 rfl rfl rfl (sb 14) (fun sv=> ?_) ?_
 have hm:=he1651
 apply vb hm<;>intro h1654 hm
 refine VIf.t h1654 ?_
 obtain⟨ev1936,he1937,hm⟩:=b9 hm
 refine M2.ofZ pok ⟨[(0, .row 3 4),(1,DI c.Night),(1000002, .own 14 0),(1000003, .own 15 0),(1000004, .own 16 0),(1000196, .own 2 0),(1000198, .own 13 0)], [(2, .blk [DI 0,DI 0,nS,nS,nS,nS,nS,DI 0,nS,nS,nS,nS,nS] 38),(3,rE 4 x8.Now.Slots a8.c 87),(4,rE 6 x8.Now.Bids c0.c 67),(5,rE 4 x8.Now.Heard a7.c 89),(6,rE 5 x8.Now.Leases b8.c 73),(7,rE 6 x8.Now.Loans b6.c 78),(8,rE 4 x8.Safe.Slots a8.c 87),(9,rE 6 x8.Safe.Bids c0.c 67),(10,rE 4 x8.Safe.Heard a7.c 89),(11,rE 5 x8.Safe.Leases b8.c 73),(12,rE 6 x8.Safe.Loans b6.c 78),(13, .blk [DI x8.Me,DI x8.Now.Round, .row 3 4, .row 4 6, .row 5 4, .row 6 5, .row 7 6,DI x8.Safe.Round, .row 8 4, .row 9 6, .row 10 4, .row 11 5, .row 12 6] 38),(14, .blk [DI x8.Now.Round, .row 3 4, .row 4 6, .row 5 4, .row 6 5, .row 7 6] 36),(15, .blk (b5.c c) 24),(16, .blk [DI 0,nS,nS,nS,nS,nS] 36)],17⟩ (match ev1936 with|(v1746,x1747)=>(⟨[(2, .own 14 0),(3, .own 15 0),(4, .own 16 0),(22, .tup [DI x1747, .row 20 4]),(1000004, .own 2 0),(1000006, .own 13 0)], [(2, .blk [DI 0,DI 0,nS,nS,nS,nS,nS,DI 0,nS,nS,nS,nS,nS] 38),(3,rE 4 x8.Now.Slots a8.c 87),(4,rE 6 x8.Now.Bids c0.c 67),(5,rE 4 x8.Now.Heard a7.c 89),(6,rE 5 x8.Now.Leases b8.c 73),(7,rE 6 x8.Now.Loans b6.c 78),(8,rE 4 x8.Safe.Slots a8.c 87),(9,rE 6 x8.Safe.Bids c0.c 67),(10,rE 4 x8.Safe.Heard a7.c 89),(11,rE 5 x8.Safe.Leases b8.c 73),(12,rE 6 x8.Safe.Loans b6.c 78),(13, .blk [DI x8.Me,DI x8.Now.Round, .row 3 4, .row 4 6, .row 5 4, .row 6 5, .row 7 6,DI x8.Safe.Round, .row 8 4, .row 9 6, .row 10 4, .row 11 5, .row 12 6] 38),(14, .blk [DI x8.Now.Round, .row 3 4, .row 4 6, .row 5 4, .row 6 5, .row 7 6] 36),(15, .blk (b5.c c) 24),(16, .blk [DI 0,nS,nS,nS,nS,nS] 36),(20,rE 4 v1746 a8.c 87)],21⟩:Sy):Sy) [] [51,76,144,145,173] [82] [89,135] Tryz.func135 rfl rfl rfl (sb 17) (fun sv=> ?_) ?_
 have hm:=he1937
 obtain⟨ev2083,he,hk2084⟩:=b9 hm
 refine c9k (A6 c x8) (fun(out1978,at_1979,i1980,out1981,out1982,out1983)=>⟨[(0, .row 3 4),(1,DI c.Night),(6, .row 20 4),(7,DI at_1979),(8,DI i1980),(1000002, .own 14 0),(1000003, .own 15 0),(1000004, .own 16 0),(1000196, .own 2 0),(1000198, .own 13 0)], [(2, .blk [DI 0,DI 0,nS,nS,nS,nS,nS,DI 0,nS,nS,nS,nS,nS] 38),(3,rE 4 x8.Now.Slots a8.c 87),(4,rE 6 x8.Now.Bids c0.c 67),(5,rE 4 x8.Now.Heard a7.c 89),(6,rE 5 x8.Now.Leases b8.c 73),(7,rE 6 x8.Now.Loans b6.c 78),(8,rE 4 x8.Safe.Slots a8.c 87),(9,rE 6 x8.Safe.Bids c0.c 67),(10,rE 4 x8.Safe.Heard a7.c 89),(11,rE 5 x8.Safe.Leases b8.c 73),(12,rE 6 x8.Safe.Loans b6.c 78),(13, .blk [DI x8.Me,DI x8.Now.Round, .row 3 4, .row 4 6, .row 5 4, .row 6 5, .row 7 6,DI x8.Safe.Round, .row 8 4, .row 9 6, .row 10 4, .row 11 5, .row 12 6] 38),(14, .blk [DI x8.Now.Round, .row 3 4, .row 4 6, .row 5 4, .row 6 5, .row 7 6] 36),(15, .blk (b5.c c) 24),(16, .blk [DI 0,nS,nS,nS,nS,nS] 36),(17,rE 4 out1978 a8.c 87),(18,rE 4 out1981 a8.c 87),(19,rE 4 out1982 a8.c 87),(20,rE 4 out1983 a8.c 87)],21⟩) ([],(-1),0, [], [], []) (sb 17) he ?_
 rintro fu2085 ⟨out1978,at_1979,i1980,out1981,out1982,out1983⟩ b hm hi2086
 apply vb hm<;>intro _ hm
 apply vb hm<;>intro _ hm
 refine eb hm fun _ hm=> ?_
 refine er hm fun _ hm=> ?_
 apply vb hm<;>intro _ hm
 refine⟨([(⟨c.Night,0,0,0⟩:a8)]:List a8).flatMap a8.c,([(⟨c.Night,0,0,0⟩:a8)]:List a8).length,⟨rfl,rfl⟩, ?_⟩
 obtain⟨hg,hm⟩:=c7 hm
 refine⟨hg,_,_,c8 (c:=a8.c) (l:=(out1983:List a8)) (r:=(([(⟨c.Night,0,0,0⟩:a8)]:List a8):List a8)), ?_⟩
 refine eb hm fun _ hm=> ?_
 refine er hm fun _ hm=> ?_
 apply vb hm<;>intro _ hm
 refine eb hm fun _ hm=> ?_
 refine er hm fun e2101 hm=> ?_
 refine⟨([e2101]:List a8).flatMap a8.c,([e2101]:List a8).length,⟨rfl,rfl⟩, ?_⟩
 obtain⟨hg,hm⟩:=c7 hm
 refine⟨hg,_,_,c8 (c:=a8.c) (l:=((out1983++([(⟨c.Night,0,0,0⟩:a8)]:List a8)):List a8)) (r:=(([e2101]:List a8):List a8)), ?_⟩
 cases hm
 exact⟨(_,(out1978,((out1983++([(⟨c.Night,0,0,0⟩:a8)]:List a8)).length:Int),(W (i1980+1)),out1981,out1982,((out1983++([(⟨c.Night,0,0,0⟩:a8)]:List a8))++([e2101]:List a8)))),sb 21,hi2086,Nat.lt_succ_self _⟩
 refine eb hm fun _ hm=> ?_
 refine er hm fun e2105 hm=> ?_
 refine⟨([e2105]:List a8).flatMap a8.c,([e2105]:List a8).length,⟨rfl,rfl⟩, ?_⟩
 obtain⟨hg,hm⟩:=c7 hm
 refine⟨hg,_,_,c8 (c:=a8.c) (l:=((out1983++([(⟨c.Night,0,0,0⟩:a8)]:List a8)):List a8)) (r:=(([e2105]:List a8):List a8)), ?_⟩
 cases hm
 exact⟨(_,(out1978,(out1983.length:Int),(W (i1980+1)),out1981,out1982,((out1983++([(⟨c.Night,0,0,0⟩:a8)]:List a8))++([e2105]:List a8)))),sb 21,hi2086,Nat.lt_succ_self _⟩
 refine eb hm fun _ hm=> ?_
 refine er hm fun _ hm=> ?_
 apply vb hm<;>intro _ hm
 refine eb hm fun _ hm=> ?_
 refine er hm fun e2114 hm=> ?_
 refine⟨([e2114]:List a8).flatMap a8.c,([e2114]:List a8).length,⟨rfl,rfl⟩, ?_⟩
 obtain⟨hg,hm⟩:=c7 hm
 refine⟨hg,_,_,c8 (c:=a8.c) (l:=(out1983:List a8)) (r:=(([e2114]:List a8):List a8)), ?_⟩
 cases hm
 exact⟨(_,(out1978,(out1983.length:Int),(W (i1980+1)),out1981,out1982,(out1983++([e2114]:List a8)))),sb 21,hi2086,Nat.lt_succ_self _⟩
 refine eb hm fun _ hm=> ?_
 refine er hm fun e2118 hm=> ?_
 refine⟨([e2118]:List a8).flatMap a8.c,([e2118]:List a8).length,⟨rfl,rfl⟩, ?_⟩
 obtain⟨hg,hm⟩:=c7 hm
 refine⟨hg,_,_,c8 (c:=a8.c) (l:=(out1983:List a8)) (r:=(([e2118]:List a8):List a8)), ?_⟩
 cases hm
 exact⟨(_,(out1978,at_1979,(W (i1980+1)),out1981,out1982,(out1983++([e2118]:List a8)))),sb 21,hi2086,Nat.lt_succ_self _⟩
 refine eb hm fun _ hm=> ?_
 refine er hm fun _ hm=> ?_
 apply vb hm<;>intro _ hm
 refine eb hm fun _ hm=> ?_
 refine er hm fun e2127 hm=> ?_
 refine⟨([e2127]:List a8).flatMap a8.c,([e2127]:List a8).length,⟨rfl,rfl⟩, ?_⟩
 obtain⟨hg,hm⟩:=c7 hm
 refine⟨hg,_,_,c8 (c:=a8.c) (l:=(out1983:List a8)) (r:=(([e2127]:List a8):List a8)), ?_⟩
 cases hm
 exact⟨(_,(out1978,(out1983.length:Int),(W (i1980+1)),out1981,out1982,(out1983++([e2127]:List a8)))),sb 21,hi2086,Nat.lt_succ_self _⟩
 refine eb hm fun _ hm=> ?_
 refine er hm fun e2131 hm=> ?_
 refine⟨([e2131]:List a8).flatMap a8.c,([e2131]:List a8).length,⟨rfl,rfl⟩, ?_⟩
 obtain⟨hg,hm⟩:=c7 hm
 refine⟨hg,_,_,c8 (c:=a8.c) (l:=(out1983:List a8)) (r:=(([e2131]:List a8):List a8)), ?_⟩
 cases hm
 exact⟨(_,(out1978,at_1979,(W (i1980+1)),out1981,out1982,(out1983++([e2131]:List a8)))),sb 21,hi2086,Nat.lt_succ_self _⟩
 cases hm
 cases hi2086
 have hm:=hk2084
 apply vb hm<;>intro _ hm
 refine⟨([(⟨c.Night,0,0,0⟩:a8)]:List a8).flatMap a8.c,([(⟨c.Night,0,0,0⟩:a8)]:List a8).length,⟨rfl,rfl⟩, ?_⟩
 obtain⟨hg,hm⟩:=c7 hm
 refine⟨hg,_,_,c8 (c:=a8.c) (l:=(out1983:List a8)) (r:=(([(⟨c.Night,0,0,0⟩:a8)]:List a8):List a8)), ?_⟩
 cases hm
 exact sb 21
 cases hm
 exact sb 21
 obtain⟨v1746,x1747⟩:=ev1936
 refine VIf.t h1654 ?_
 refine⟨rfl, ?_⟩
 refine eb hm fun _ hm=> ?_
 refine er hm fun e1940 hm=> ?_
 refine eb hm fun _ hm=> ?_
 obtain⟨e1944,hx1945,hm⟩:=b9 hm
 refine⟨_,a1M (fun _=>rfl) hx1945,_,Q6 (y:=(⟨e1944.Night,(if c.Ballot>e1940.Promised then c.Ballot else e1940.Promised),e1944.Ballot,e1944.Value⟩:a8)) (fun _=>rfl) hx1945, ?_⟩
 cases hm
 exact sb 21
 apply vb hm<;>intro _ hm
 obtain⟨ev2416,he2417,hm⟩:=b9 hm
 refine M2.ofZ pok ⟨[(0, .row 3 4),(1,DI c.Night),(1000002, .own 14 0),(1000003, .own 15 0),(1000004, .own 16 0),(1000196, .own 2 0),(1000198, .own 13 0)], [(2, .blk [DI 0,DI 0,nS,nS,nS,nS,nS,DI 0,nS,nS,nS,nS,nS] 38),(3,rE 4 x8.Now.Slots a8.c 87),(4,rE 6 x8.Now.Bids c0.c 67),(5,rE 4 x8.Now.Heard a7.c 89),(6,rE 5 x8.Now.Leases b8.c 73),(7,rE 6 x8.Now.Loans b6.c 78),(8,rE 4 x8.Safe.Slots a8.c 87),(9,rE 6 x8.Safe.Bids c0.c 67),(10,rE 4 x8.Safe.Heard a7.c 89),(11,rE 5 x8.Safe.Leases b8.c 73),(12,rE 6 x8.Safe.Loans b6.c 78),(13, .blk [DI x8.Me,DI x8.Now.Round, .row 3 4, .row 4 6, .row 5 4, .row 6 5, .row 7 6,DI x8.Safe.Round, .row 8 4, .row 9 6, .row 10 4, .row 11 5, .row 12 6] 38),(14, .blk [DI x8.Now.Round, .row 3 4, .row 4 6, .row 5 4, .row 6 5, .row 7 6] 36),(15, .blk (b5.c c) 24),(16, .blk [DI 0,nS,nS,nS,nS,nS] 36)],17⟩ (match ev2416 with|(v2226,x2227)=>(⟨[(2, .own 14 0),(3, .own 15 0),(4, .own 16 0),(22, .tup [DI x2227, .row 20 4]),(1000004, .own 2 0),(1000006, .own 13 0)], [(2, .blk [DI 0,DI 0,nS,nS,nS,nS,nS,DI 0,nS,nS,nS,nS,nS] 38),(3,rE 4 x8.Now.Slots a8.c 87),(4,rE 6 x8.Now.Bids c0.c 67),(5,rE 4 x8.Now.Heard a7.c 89),(6,rE 5 x8.Now.Leases b8.c 73),(7,rE 6 x8.Now.Loans b6.c 78),(8,rE 4 x8.Safe.Slots a8.c 87),(9,rE 6 x8.Safe.Bids c0.c 67),(10,rE 4 x8.Safe.Heard a7.c 89),(11,rE 5 x8.Safe.Leases b8.c 73),(12,rE 6 x8.Safe.Loans b6.c 78),(13, .blk [DI x8.Me,DI x8.Now.Round, .row 3 4, .row 4 6, .row 5 4, .row 6 5, .row 7 6,DI x8.Safe.Round, .row 8 4, .row 9 6, .row 10 4, .row 11 5, .row 12 6] 38),(14, .blk [DI x8.Now.Round, .row 3 4, .row 4 6, .row 5 4, .row 6 5, .row 7 6] 36),(15, .blk (b5.c c) 24),(16, .blk [DI 0,nS,nS,nS,nS,nS] 36),(20,rE 4 v2226 a8.c 87)],21⟩:Sy):Sy) [] [51,76,144,145,173] [82] [89,135] Tryz.func135 rfl rfl rfl (sb 17) (fun sv=> ?_) ?_
 have hm:=he2417
 obtain⟨ev2564,he,hk2565⟩:=b9 hm
 refine c9k (A6 c x8) (fun(out2459,at_2460,i2461,out2462,out2463,out2464)=>⟨[(0, .row 3 4),(1,DI c.Night),(6, .row 20 4),(7,DI at_2460),(8,DI i2461),(1000002, .own 14 0),(1000003, .own 15 0),(1000004, .own 16 0),(1000196, .own 2 0),(1000198, .own 13 0)], [(2, .blk [DI 0,DI 0,nS,nS,nS,nS,nS,DI 0,nS,nS,nS,nS,nS] 38),(3,rE 4 x8.Now.Slots a8.c 87),(4,rE 6 x8.Now.Bids c0.c 67),(5,rE 4 x8.Now.Heard a7.c 89),(6,rE 5 x8.Now.Leases b8.c 73),(7,rE 6 x8.Now.Loans b6.c 78),(8,rE 4 x8.Safe.Slots a8.c 87),(9,rE 6 x8.Safe.Bids c0.c 67),(10,rE 4 x8.Safe.Heard a7.c 89),(11,rE 5 x8.Safe.Leases b8.c 73),(12,rE 6 x8.Safe.Loans b6.c 78),(13, .blk [DI x8.Me,DI x8.Now.Round, .row 3 4, .row 4 6, .row 5 4, .row 6 5, .row 7 6,DI x8.Safe.Round, .row 8 4, .row 9 6, .row 10 4, .row 11 5, .row 12 6] 38),(14, .blk [DI x8.Now.Round, .row 3 4, .row 4 6, .row 5 4, .row 6 5, .row 7 6] 36),(15, .blk (b5.c c) 24),(16, .blk [DI 0,nS,nS,nS,nS,nS] 36),(17,rE 4 out2459 a8.c 87),(18,rE 4 out2462 a8.c 87),(19,rE 4 out2463 a8.c 87),(20,rE 4 out2464 a8.c 87)],21⟩) ([],(-1),0, [], [], []) (sb 17) he ?_
 rintro fu2566 ⟨out2459,at_2460,i2461,out2462,out2463,out2464⟩ b hm hi2567
 apply vb hm<;>intro _ hm
 apply vb hm<;>intro _ hm
 refine eb hm fun _ hm=> ?_
 refine er hm fun _ hm=> ?_
 apply vb hm<;>intro _ hm
 refine⟨([(⟨c.Night,0,0,0⟩:a8)]:List a8).flatMap a8.c,([(⟨c.Night,0,0,0⟩:a8)]:List a8).length,⟨rfl,rfl⟩, ?_⟩
 obtain⟨hg,hm⟩:=c7 hm
 refine⟨hg,_,_,c8 (c:=a8.c) (l:=(out2464:List a8)) (r:=(([(⟨c.Night,0,0,0⟩:a8)]:List a8):List a8)), ?_⟩
 refine eb hm fun _ hm=> ?_
 refine er hm fun _ hm=> ?_
 apply vb hm<;>intro _ hm
 refine eb hm fun _ hm=> ?_
 refine er hm fun e2582 hm=> ?_
 refine⟨([e2582]:List a8).flatMap a8.c,([e2582]:List a8).length,⟨rfl,rfl⟩, ?_⟩
 obtain⟨hg,hm⟩:=c7 hm
 refine⟨hg,_,_,c8 (c:=a8.c) (l:=((out2464++([(⟨c.Night,0,0,0⟩:a8)]:List a8)):List a8)) (r:=(([e2582]:List a8):List a8)), ?_⟩
 cases hm
 exact⟨(_,(out2459,((out2464++([(⟨c.Night,0,0,0⟩:a8)]:List a8)).length:Int),(W (i2461+1)),out2462,out2463,((out2464++([(⟨c.Night,0,0,0⟩:a8)]:List a8))++([e2582]:List a8)))),sb 21,hi2567,Nat.lt_succ_self _⟩
 refine eb hm fun _ hm=> ?_
 refine er hm fun e2586 hm=> ?_
 refine⟨([e2586]:List a8).flatMap a8.c,([e2586]:List a8).length,⟨rfl,rfl⟩, ?_⟩
 obtain⟨hg,hm⟩:=c7 hm
 refine⟨hg,_,_,c8 (c:=a8.c) (l:=((out2464++([(⟨c.Night,0,0,0⟩:a8)]:List a8)):List a8)) (r:=(([e2586]:List a8):List a8)), ?_⟩
 cases hm
 exact⟨(_,(out2459,(out2464.length:Int),(W (i2461+1)),out2462,out2463,((out2464++([(⟨c.Night,0,0,0⟩:a8)]:List a8))++([e2586]:List a8)))),sb 21,hi2567,Nat.lt_succ_self _⟩
 refine eb hm fun _ hm=> ?_
 refine er hm fun _ hm=> ?_
 apply vb hm<;>intro _ hm
 refine eb hm fun _ hm=> ?_
 refine er hm fun e2595 hm=> ?_
 refine⟨([e2595]:List a8).flatMap a8.c,([e2595]:List a8).length,⟨rfl,rfl⟩, ?_⟩
 obtain⟨hg,hm⟩:=c7 hm
 refine⟨hg,_,_,c8 (c:=a8.c) (l:=(out2464:List a8)) (r:=(([e2595]:List a8):List a8)), ?_⟩
 cases hm
 exact⟨(_,(out2459,(out2464.length:Int),(W (i2461+1)),out2462,out2463,(out2464++([e2595]:List a8)))),sb 21,hi2567,Nat.lt_succ_self _⟩
 refine eb hm fun _ hm=> ?_
 refine er hm fun e2599 hm=> ?_
 refine⟨([e2599]:List a8).flatMap a8.c,([e2599]:List a8).length,⟨rfl,rfl⟩, ?_⟩
 obtain⟨hg,hm⟩:=c7 hm
 refine⟨hg,_,_,c8 (c:=a8.c) (l:=(out2464:List a8)) (r:=(([e2599]:List a8):List a8)), ?_⟩
 cases hm
 exact⟨(_,(out2459,at_2460,(W (i2461+1)),out2462,out2463,(out2464++([e2599]:List a8)))),sb 21,hi2567,Nat.lt_succ_self _⟩
 refine eb hm fun _ hm=> ?_
 refine er hm fun _ hm=> ?_
 apply vb hm<;>intro _ hm
 refine eb hm fun _ hm=> ?_
 refine er hm fun e2608 hm=> ?_
 refine⟨([e2608]:List a8).flatMap a8.c,([e2608]:List a8).length,⟨rfl,rfl⟩, ?_⟩
 obtain⟨hg,hm⟩:=c7 hm
 refine⟨hg,_,_,c8 (c:=a8.c) (l:=(out2464:List a8)) (r:=(([e2608]:List a8):List a8)), ?_⟩
 cases hm
 exact⟨(_,(out2459,(out2464.length:Int),(W (i2461+1)),out2462,out2463,(out2464++([e2608]:List a8)))),sb 21,hi2567,Nat.lt_succ_self _⟩
 refine eb hm fun _ hm=> ?_
 refine er hm fun e2612 hm=> ?_
 refine⟨([e2612]:List a8).flatMap a8.c,([e2612]:List a8).length,⟨rfl,rfl⟩, ?_⟩
 obtain⟨hg,hm⟩:=c7 hm
 refine⟨hg,_,_,c8 (c:=a8.c) (l:=(out2464:List a8)) (r:=(([e2612]:List a8):List a8)), ?_⟩
 cases hm
 exact⟨(_,(out2459,at_2460,(W (i2461+1)),out2462,out2463,(out2464++([e2612]:List a8)))),sb 21,hi2567,Nat.lt_succ_self _⟩
 cases hm
 cases hi2567
 have hm:=hk2565
 apply vb hm<;>intro _ hm
 refine⟨([(⟨c.Night,0,0,0⟩:a8)]:List a8).flatMap a8.c,([(⟨c.Night,0,0,0⟩:a8)]:List a8).length,⟨rfl,rfl⟩, ?_⟩
 obtain⟨hg,hm⟩:=c7 hm
 refine⟨hg,_,_,c8 (c:=a8.c) (l:=(out2464:List a8)) (r:=(([(⟨c.Night,0,0,0⟩:a8)]:List a8):List a8)), ?_⟩
 cases hm
 exact sb 21
 cases hm
 exact sb 21
 obtain⟨v2226,x2227⟩:=ev2416
 refine VIf.f h1654 ?_
 refine⟨rfl, ?_⟩
 refine eb hm fun _ hm=> ?_
 refine er hm fun _ hm=> ?_
 apply vb hm<;>intro _ hm
 refine eb hm fun _ hm=> ?_
 obtain⟨e2425,hx2426,hm⟩:=b9 hm
 refine⟨_,a1M (fun _=>rfl) hx2426,_,Q6 (y:=(⟨c.Night,c.Ballot,c.Ballot,c.Value⟩:a8)) (fun _=>rfl) hx2426, ?_⟩
 cases hm
 exact sb 21
 cases hm
 exact sb 21
 apply vb hm<;>intro _ hm
 obtain⟨ev2698,he,hk2699⟩:=b9 hm
 refine c9k (Y1 c) (fun(i2642,v2643)=>⟨[(2, .own 14 0),(3, .own 15 0),(4, .own 16 0),(8,DI i2642),(1000004, .own 2 0),(1000006, .own 13 0)], [(2, .blk [DI 0,DI 0,nS,nS,nS,nS,nS,DI 0,nS,nS,nS,nS,nS] 38),(3,rE 4 x8.Now.Slots a8.c 87),(4,rE 6 v2643 c0.c 67),(5,rE 4 x8.Now.Heard a7.c 89),(6,rE 5 x8.Now.Leases b8.c 73),(7,rE 6 x8.Now.Loans b6.c 78),(8,rE 4 x8.Safe.Slots a8.c 87),(9,rE 6 x8.Safe.Bids c0.c 67),(10,rE 4 x8.Safe.Heard a7.c 89),(11,rE 5 x8.Safe.Leases b8.c 73),(12,rE 6 x8.Safe.Loans b6.c 78),(13, .blk [DI x8.Me,DI x8.Now.Round, .row 3 4, .row 4 6, .row 5 4, .row 6 5, .row 7 6,DI x8.Safe.Round, .row 8 4, .row 9 6, .row 10 4, .row 11 5, .row 12 6] 38),(14, .blk [DI x8.Now.Round, .row 3 4, .row 4 6, .row 5 4, .row 6 5, .row 7 6] 36),(15, .blk (b5.c c) 24),(16, .blk [DI 0,nS,nS,nS,nS,nS] 36)],17⟩) (0,x8.Now.Bids) (sb 17) he ?_
 rintro fu2700 ⟨i2642,v2643⟩ b hm hi2701
 apply vb hm<;>intro _ hm
 refine eb hm fun _ hm=> ?_
 refine er hm fun e2705 hm=> ?_
 refine⟨rfl, ?_⟩
 apply vb hm<;>intro _ hm
 cases hm
 exact⟨(_,((W (i2642+1)),v2643)),sb 17,hi2701,Nat.lt_succ_self _⟩
 apply vb hm<;>intro _ hm
 cases hm
 exact⟨(_,((W (i2642+1)),v2643)),sb 17,hi2701,Nat.lt_succ_self _⟩
 apply vb hm<;>intro _ hm
 cases hm
 exact⟨(_,((W (i2642+1)),v2643)),sb 17,hi2701,Nat.lt_succ_self _⟩
 refine cy hm (a2k c.From) fun x2710 hm=> ?_
 apply vb hm<;>intro _ hm
 cases hm
 exact⟨(_,((W (i2642+1)),v2643)),sb 17,hi2701,Nat.lt_succ_self _⟩
 refine⟨rfl, ?_⟩
 refine cy hm (a2k c.From) fun x2713 hm=> ?_
 apply vb hm<;>intro _ hm
 refine cy hm (a4b ((W ((BitVec.ofInt IntKind.i64.bits e2705.Mask|||BitVec.ofInt IntKind.i64.bits x2713).toNat:Int)))) fun x2716 hm=> ?_
 refine eb hm fun _ hm=> ?_
 obtain⟨e2720,hx2721,hm⟩:=b9 hm
 refine⟨_,a1M (fun _=>rfl) hx2721,_,Q6 (y:=(⟨e2705.Night,e2705.Ballot,c.Value,c.Best,(W ((BitVec.ofInt IntKind.i64.bits e2705.Mask|||BitVec.ofInt IntKind.i64.bits x2713).toNat:Int)),x2716⟩:c0)) (fun _=>rfl) hx2721, ?_⟩
 cases hm
 exact⟨(_,((W (i2642+1)),(v2643.set i2642.toNat (⟨e2705.Night,e2705.Ballot,c.Value,c.Best,(W ((BitVec.ofInt IntKind.i64.bits e2705.Mask|||BitVec.ofInt IntKind.i64.bits x2713).toNat:Int)),x2716⟩:c0)))),sb 17,hi2701,Nat.lt_succ_self _⟩
 refine cy hm (a4b ((W ((BitVec.ofInt IntKind.i64.bits e2705.Mask|||BitVec.ofInt IntKind.i64.bits x2713).toNat:Int)))) fun x2722 hm=> ?_
 refine eb hm fun _ hm=> ?_
 obtain⟨e2726,hx2727,hm⟩:=b9 hm
 refine⟨_,a1M (fun _=>rfl) hx2727,_,Q6 (y:=(⟨e2705.Night,e2705.Ballot,e2705.Value,e2705.Best,(W ((BitVec.ofInt IntKind.i64.bits e2705.Mask|||BitVec.ofInt IntKind.i64.bits x2713).toNat:Int)),x2722⟩:c0)) (fun _=>rfl) hx2727, ?_⟩
 cases hm
 exact⟨(_,((W (i2642+1)),(v2643.set i2642.toNat (⟨e2705.Night,e2705.Ballot,e2705.Value,e2705.Best,(W ((BitVec.ofInt IntKind.i64.bits e2705.Mask|||BitVec.ofInt IntKind.i64.bits x2713).toNat:Int)),x2722⟩:c0)))),sb 17,hi2701,Nat.lt_succ_self _⟩
 cases hm
 cases hi2701
 have hm:=hk2699
 cases hm
 exact sb 14
 apply vb hm<;>intro _ hm
 refine co hm (b7h x8.Now c) ?_
 rintro⟨x2729,x2730⟩ hm
 cases hm
 exact sb 14
 apply vb hm<;>intro _ hm
 refine co hm (b4k x8.Now c) ?_
 rintro⟨x2733,x2734⟩ hm
 cases hm
 exact sb 14
 obtain⟨ev2776,he,hk2777⟩:=b9 hm
 refine c9k (Z3 c) (fun(i2748,v2749)=>⟨[(2, .own 14 0),(3, .own 15 0),(4, .own 16 0),(10,DI i2748),(1000004, .own 2 0),(1000006, .own 13 0)], [(2, .blk [DI 0,DI 0,nS,nS,nS,nS,nS,DI 0,nS,nS,nS,nS,nS] 38),(3,rE 4 x8.Now.Slots a8.c 87),(4,rE 6 x8.Now.Bids c0.c 67),(5,rE 4 x8.Now.Heard a7.c 89),(6,rE 5 v2749 b8.c 73),(7,rE 6 x8.Now.Loans b6.c 78),(8,rE 4 x8.Safe.Slots a8.c 87),(9,rE 6 x8.Safe.Bids c0.c 67),(10,rE 4 x8.Safe.Heard a7.c 89),(11,rE 5 x8.Safe.Leases b8.c 73),(12,rE 6 x8.Safe.Loans b6.c 78),(13, .blk [DI x8.Me,DI x8.Now.Round, .row 3 4, .row 4 6, .row 5 4, .row 6 5, .row 7 6,DI x8.Safe.Round, .row 8 4, .row 9 6, .row 10 4, .row 11 5, .row 12 6] 38),(14, .blk [DI x8.Now.Round, .row 3 4, .row 4 6, .row 5 4, .row 6 5, .row 7 6] 36),(15, .blk (b5.c c) 24),(16, .blk [DI 0,nS,nS,nS,nS,nS] 36)],17⟩) (0,x8.Now.Leases) (sb 17) he ?_
 rintro fu2778 ⟨i2748,v2749⟩ b hm hi2779
 apply vb hm<;>intro _ hm
 refine eb hm fun _ hm=> ?_
 refine er hm fun e2783 hm=> ?_
 apply vb hm<;>intro _ hm
 apply vb hm<;>intro _ hm
 apply vb hm<;>intro _ hm
 refine eb hm fun _ hm=> ?_
 obtain⟨e2790,hx2791,hm⟩:=b9 hm
 refine⟨_,a1M (fun _=>rfl) hx2791,_,Q6 (y:=(⟨e2790.No,e2790.Thing,e2790.To,e2790.From,(if(if e2783.From>c.Until then e2783.From else c.Until)<e2783.Until then(if e2783.From>c.Until then e2783.From else c.Until)else e2783.Until)⟩:b8)) (fun _=>rfl) hx2791, ?_⟩
 cases hm
 exact⟨(_,((W (i2748+1)),(v2749.set i2748.toNat (⟨e2790.No,e2790.Thing,e2790.To,e2790.From,(if(if e2783.From>c.Until then e2783.From else c.Until)<e2783.Until then(if e2783.From>c.Until then e2783.From else c.Until)else e2783.Until)⟩:b8)))),sb 17,hi2779,Nat.lt_succ_self _⟩
 cases hm
 exact⟨(_,((W (i2748+1)),v2749)),sb 17,hi2779,Nat.lt_succ_self _⟩
 cases hm
 exact⟨(_,((W (i2748+1)),v2749)),sb 17,hi2779,Nat.lt_succ_self _⟩
 cases hm
 exact⟨(_,((W (i2748+1)),v2749)),sb 17,hi2779,Nat.lt_succ_self _⟩
 cases hm
 cases hi2779
 have hm:=hk2777
 cases hm
 exact sb 14
 rcases ev1650 with⟨v494,x495,x496⟩|(⟨v497,v498,x499⟩|⟨x500,x501,x502,x503,x504,x505,x506,x507,x508,x509,x510,x511⟩)
 apply vb hm<;>intro _ hm
 cases hm
 exact c9j (le1)
 cases hm
 exact c9j (c9h _)
 cases hm
 exact c9j (c9h _)
 apply vb hm<;>intro _ hm
 cases hm
 exact c9j (le1)
 cases hm
 exact c9j (c9h _)
def a0J (x:a6) (to_:Int):((List b5)×Int×(List b5))→Option (Sum ((List b5)×Int×(List b5)) ((List b5)×Int×(List b5))):=fun(out11,i12,out13)=>
 if(decide (i12<(x.Safe.Bids.length:Int)))=true then
  Option.bind (idx x.Safe.Bids i12) fun e19=>
  if e19.Asked=true then
   gd ((out13.length+([(⟨3,x.Me,to_,e19.Night,e19.Ballot,0,e19.Value,0,0,0,0⟩:b5)]:List b5).length)*88≤140737488355328∧out13.length+([(⟨3,x.Me,to_,e19.Night,e19.Ballot,0,e19.Value,0,0,0,0⟩:b5)]:List b5).length≤9223372036854775807)<|
   some (.inl (out11,(W (i12+1)),(out13++([(⟨3,x.Me,to_,e19.Night,e19.Ballot,0,e19.Value,0,0,0,0⟩:b5)]:List b5))))
  else
   gd ((out13.length+([(⟨1,x.Me,to_,e19.Night,e19.Ballot,0,0,0,0,0,0⟩:b5)]:List b5).length)*88≤140737488355328∧out13.length+([(⟨1,x.Me,to_,e19.Night,e19.Ballot,0,0,0,0,0,0⟩:b5)]:List b5).length≤9223372036854775807)<|
   some (.inl (out11,(W (i12+1)),(out13++([(⟨1,x.Me,to_,e19.Night,e19.Ballot,0,0,0,0,0,0⟩:b5)]:List b5))))
 else
  some (.inr (out11,i12,out13))
def a0T (x:a6) (to_:Int):(Int×(List b5))→Option (Sum (Int×(List b5)) (Int×(List b5))):=fun(i35,v36)=>
 if(decide (i35<(x.Safe.Slots.length:Int)))=true then
  Option.bind (idx x.Safe.Slots i35) fun e48=>
  Option.bind (w7 e48.Promised 6) fun x50=>
  if(x50==to_)=true then
   if(decide (e48.Promised>e48.Ballot))=true then
    gd ((v36.length+([(⟨2,x.Me,to_,e48.Night,e48.Promised,e48.Ballot,e48.Value,0,0,0,0⟩:b5)]:List b5).length)*88≤140737488355328∧v36.length+([(⟨2,x.Me,to_,e48.Night,e48.Promised,e48.Ballot,e48.Value,0,0,0,0⟩:b5)]:List b5).length≤9223372036854775807)<|
    if(e48.Ballot !=0)=true then
     gd (((v36++([(⟨2,x.Me,to_,e48.Night,e48.Promised,e48.Ballot,e48.Value,0,0,0,0⟩:b5)]:List b5)).length+([(⟨4,x.Me,to_,e48.Night,e48.Ballot,0,e48.Value,0,0,0,0⟩:b5)]:List b5).length)*88≤140737488355328∧(v36++([(⟨2,x.Me,to_,e48.Night,e48.Promised,e48.Ballot,e48.Value,0,0,0,0⟩:b5)]:List b5)).length+([(⟨4,x.Me,to_,e48.Night,e48.Ballot,0,e48.Value,0,0,0,0⟩:b5)]:List b5).length≤9223372036854775807)<|
     some (.inl ((W (i35+1)),((v36++([(⟨2,x.Me,to_,e48.Night,e48.Promised,e48.Ballot,e48.Value,0,0,0,0⟩:b5)]:List b5))++([(⟨4,x.Me,to_,e48.Night,e48.Ballot,0,e48.Value,0,0,0,0⟩:b5)]:List b5))))
    else
     some (.inl ((W (i35+1)),(v36++([(⟨2,x.Me,to_,e48.Night,e48.Promised,e48.Ballot,e48.Value,0,0,0,0⟩:b5)]:List b5))))
   else
    if(e48.Ballot !=0)=true then
     gd ((v36.length+([(⟨4,x.Me,to_,e48.Night,e48.Ballot,0,e48.Value,0,0,0,0⟩:b5)]:List b5).length)*88≤140737488355328∧v36.length+([(⟨4,x.Me,to_,e48.Night,e48.Ballot,0,e48.Value,0,0,0,0⟩:b5)]:List b5).length≤9223372036854775807)<|
     some (.inl ((W (i35+1)),(v36++([(⟨4,x.Me,to_,e48.Night,e48.Ballot,0,e48.Value,0,0,0,0⟩:b5)]:List b5))))
    else
     some (.inl ((W (i35+1)),v36))
  else
   if(e48.Ballot !=0)=true then
    gd ((v36.length+([(⟨4,x.Me,to_,e48.Night,e48.Ballot,0,e48.Value,0,0,0,0⟩:b5)]:List b5).length)*88≤140737488355328∧v36.length+([(⟨4,x.Me,to_,e48.Night,e48.Ballot,0,e48.Value,0,0,0,0⟩:b5)]:List b5).length≤9223372036854775807)<|
    some (.inl ((W (i35+1)),(v36++([(⟨4,x.Me,to_,e48.Night,e48.Ballot,0,e48.Value,0,0,0,0⟩:b5)]:List b5))))
   else
    some (.inl ((W (i35+1)),v36))
 else
  some (.inr (i35,v36))
def a0W (x:a6) (to_:Int):(Int×(List b5))→Option (Sum (Int×(List b5)) (Int×(List b5))):=fun(i63,v64)=>
 if(decide (i63<(x.Safe.Leases.length:Int)))=true then
  Option.bind (idx x.Safe.Leases i63) fun e70=>
  if(e70.To==to_)=true then
   gd ((v64.length+([(⟨5,x.Me,to_,0,0,0,0,e70.No,e70.Thing,e70.From,e70.Until⟩:b5)]:List b5).length)*88≤140737488355328∧v64.length+([(⟨5,x.Me,to_,0,0,0,0,e70.No,e70.Thing,e70.From,e70.Until⟩:b5)]:List b5).length≤9223372036854775807)<|
   some (.inl ((W (i63+1)),(v64++([(⟨5,x.Me,to_,0,0,0,0,e70.No,e70.Thing,e70.From,e70.Until⟩:b5)]:List b5))))
  else
   some (.inl ((W (i63+1)),v64))
 else
  some (.inr (i63,v64))
def a0Y (x:a6) (to_:Int):(Int×(List b5))→Option (Sum (Int×(List b5)) (Int×(List b5))):=fun(i80,v81)=>
 if(decide (i80<(x.Safe.Loans.length:Int)))=true then
  Option.bind (idx x.Safe.Loans i80) fun e88=>
  if(e88.Owner==to_)=true then
   if e88.Back=true then
    gd ((v81.length+([(⟨6,x.Me,to_,0,0,0,0,e88.No,e88.Thing,0,e88.Until⟩:b5)]:List b5).length)*88≤140737488355328∧v81.length+([(⟨6,x.Me,to_,0,0,0,0,e88.No,e88.Thing,0,e88.Until⟩:b5)]:List b5).length≤9223372036854775807)<|
    some (.inl ((W (i80+1)),(v81++([(⟨6,x.Me,to_,0,0,0,0,e88.No,e88.Thing,0,e88.Until⟩:b5)]:List b5))))
   else
    some (.inl ((W (i80+1)),v81))
  else
   some (.inl ((W (i80+1)),v81))
 else
  some (.inr (i80,v81))
def a5w (x:a6) (to_:Int):Option ((List b5)×Int):=
 Option.bind (Q9 x) fun x1=>
 if(x1 !=0)=true then
  some ([],90)
 else
  Option.bind (M0 to_) fun x4=>
  if(!x4)=true then
   some ([],1)
  else
   Option.bind (j4 (a0J x to_) ([],0, [])) fun(out22,i23,out24)=>
   Option.bind (j4 (a0T x to_) (0,out24)) fun(i57,v58)=>
   Option.bind (j4 (a0W x to_) (0,v58)) fun(i73,v74)=>
   Option.bind (j4 (a0Y x to_) (0,v74)) fun(i92,v93)=>
   some (v93,0)
theorem b7b (x:a6) (to_:Int) (r:((List b5)×Int)) (hm:a5w x to_=some r):d7 Tryz.prog 48 [.agg (a6.c x),DI to_] (fun x=>x= .tup [lD 11 r.1 b5.c,DI r.2]):=by
 refine zn Tryz.func48 rfl ?_
 refine cy hm (a0V x) fun x1 hm=> ?_
 apply vb hm<;>intro _ hm
 cases hm
 exact c9j (le2)
 refine cy hm (Q8 to_) fun x4 hm=> ?_
 apply vb hm<;>intro _ hm
 cases hm
 exact c9j (le2)
 obtain⟨ev233,he,hk234⟩:=b9 hm
 refine c9k (a0J x to_) (fun(out11,i12,out13)=>⟨[(1,DI to_),(2, .own 0 0),(6, .own 1 0),(7, .row 3 11),(8,DI i12)], [(0, .blk (a6.c x) 38),(1, .blk (b7.c x.Safe) 36),(2,rE 11 out11 b5.c 24),(3,rE 11 out13 b5.c 24)],4⟩) ([],0, []) (sb 2) he ?_
 rintro fu235 ⟨out11,i12,out13⟩ b hm hi236
 apply vb hm<;>intro _ hm
 refine ei hm fun e238 hm=> ?_
 apply vb hm<;>intro _ hm
 refine⟨([(⟨3,x.Me,to_,e238.Night,e238.Ballot,0,e238.Value,0,0,0,0⟩:b5)]:List b5).flatMap b5.c,([(⟨3,x.Me,to_,e238.Night,e238.Ballot,0,e238.Value,0,0,0,0⟩:b5)]:List b5).length,⟨rfl,rfl⟩, ?_⟩
 obtain⟨hg,hm⟩:=c7 hm
 refine⟨hg,_,_,c8 (c:=b5.c) (l:=(out13:List b5)) (r:=(([(⟨3,x.Me,to_,e238.Night,e238.Ballot,0,e238.Value,0,0,0,0⟩:b5)]:List b5):List b5)), ?_⟩
 cases hm
 exact⟨(_,(out11,(W (i12+1)),(out13++([(⟨3,x.Me,to_,e238.Night,e238.Ballot,0,e238.Value,0,0,0,0⟩:b5)]:List b5)))),sb 4,hi236,Nat.lt_succ_self _⟩
 refine⟨([(⟨1,x.Me,to_,e238.Night,e238.Ballot,0,0,0,0,0,0⟩:b5)]:List b5).flatMap b5.c,([(⟨1,x.Me,to_,e238.Night,e238.Ballot,0,0,0,0,0,0⟩:b5)]:List b5).length,⟨rfl,rfl⟩, ?_⟩
 obtain⟨hg,hm⟩:=c7 hm
 refine⟨hg,_,_,c8 (c:=b5.c) (l:=(out13:List b5)) (r:=(([(⟨1,x.Me,to_,e238.Night,e238.Ballot,0,0,0,0,0,0⟩:b5)]:List b5):List b5)), ?_⟩
 cases hm
 exact⟨(_,(out11,(W (i12+1)),(out13++([(⟨1,x.Me,to_,e238.Night,e238.Ballot,0,0,0,0,0,0⟩:b5)]:List b5)))),sb 4,hi236,Nat.lt_succ_self _⟩
 cases hm
 cases hi236
 have hm:=hk234
 obtain⟨ev355,he,hk356⟩:=b9 hm
 refine c9k (a0T x to_) (fun(i251,v252)=>⟨[(1,DI to_),(2, .own 0 0),(6, .own 1 0),(7, .row 3 11),(11,DI i251)], [(0, .blk (a6.c x) 38),(1, .blk (b7.c x.Safe) 36),(3,rE 11 v252 b5.c 24)],4⟩) (0,out13) (sb 4) he ?_
 rintro fu357 ⟨i251,v252⟩ b hm hi358
 apply vb hm<;>intro _ hm
 refine ei hm fun e360 hm=> ?_
 refine cy hm (E1 e360.Promised 6) fun x362 hm=> ?_
 apply vb hm<;>intro _ hm
 apply vb hm<;>intro _ hm
 refine⟨([(⟨2,x.Me,to_,e360.Night,e360.Promised,e360.Ballot,e360.Value,0,0,0,0⟩:b5)]:List b5).flatMap b5.c,([(⟨2,x.Me,to_,e360.Night,e360.Promised,e360.Ballot,e360.Value,0,0,0,0⟩:b5)]:List b5).length,⟨rfl,rfl⟩, ?_⟩
 obtain⟨hg,hm⟩:=c7 hm
 refine⟨hg,_,_,c8 (c:=b5.c) (l:=(v252:List b5)) (r:=(([(⟨2,x.Me,to_,e360.Night,e360.Promised,e360.Ballot,e360.Value,0,0,0,0⟩:b5)]:List b5):List b5)), ?_⟩
 apply vb hm<;>intro _ hm
 refine⟨([(⟨4,x.Me,to_,e360.Night,e360.Ballot,0,e360.Value,0,0,0,0⟩:b5)]:List b5).flatMap b5.c,([(⟨4,x.Me,to_,e360.Night,e360.Ballot,0,e360.Value,0,0,0,0⟩:b5)]:List b5).length,⟨rfl,rfl⟩, ?_⟩
 obtain⟨hg,hm⟩:=c7 hm
 refine⟨hg,_,_,c8 (c:=b5.c) (l:=((v252++([(⟨2,x.Me,to_,e360.Night,e360.Promised,e360.Ballot,e360.Value,0,0,0,0⟩:b5)]:List b5)):List b5)) (r:=(([(⟨4,x.Me,to_,e360.Night,e360.Ballot,0,e360.Value,0,0,0,0⟩:b5)]:List b5):List b5)), ?_⟩
 cases hm
 exact⟨(_,((W (i251+1)),((v252++([(⟨2,x.Me,to_,e360.Night,e360.Promised,e360.Ballot,e360.Value,0,0,0,0⟩:b5)]:List b5))++([(⟨4,x.Me,to_,e360.Night,e360.Ballot,0,e360.Value,0,0,0,0⟩:b5)]:List b5)))),sb 4,hi358,Nat.lt_succ_self _⟩
 cases hm
 exact⟨(_,((W (i251+1)),(v252++([(⟨2,x.Me,to_,e360.Night,e360.Promised,e360.Ballot,e360.Value,0,0,0,0⟩:b5)]:List b5)))),sb 4,hi358,Nat.lt_succ_self _⟩
 apply vb hm<;>intro _ hm
 refine⟨([(⟨4,x.Me,to_,e360.Night,e360.Ballot,0,e360.Value,0,0,0,0⟩:b5)]:List b5).flatMap b5.c,([(⟨4,x.Me,to_,e360.Night,e360.Ballot,0,e360.Value,0,0,0,0⟩:b5)]:List b5).length,⟨rfl,rfl⟩, ?_⟩
 obtain⟨hg,hm⟩:=c7 hm
 refine⟨hg,_,_,c8 (c:=b5.c) (l:=(v252:List b5)) (r:=(([(⟨4,x.Me,to_,e360.Night,e360.Ballot,0,e360.Value,0,0,0,0⟩:b5)]:List b5):List b5)), ?_⟩
 cases hm
 exact⟨(_,((W (i251+1)),(v252++([(⟨4,x.Me,to_,e360.Night,e360.Ballot,0,e360.Value,0,0,0,0⟩:b5)]:List b5)))),sb 4,hi358,Nat.lt_succ_self _⟩
 cases hm
 exact⟨(_,((W (i251+1)),v252)),sb 4,hi358,Nat.lt_succ_self _⟩
 apply vb hm<;>intro _ hm
 refine⟨([(⟨4,x.Me,to_,e360.Night,e360.Ballot,0,e360.Value,0,0,0,0⟩:b5)]:List b5).flatMap b5.c,([(⟨4,x.Me,to_,e360.Night,e360.Ballot,0,e360.Value,0,0,0,0⟩:b5)]:List b5).length,⟨rfl,rfl⟩, ?_⟩
 obtain⟨hg,hm⟩:=c7 hm
 refine⟨hg,_,_,c8 (c:=b5.c) (l:=(v252:List b5)) (r:=(([(⟨4,x.Me,to_,e360.Night,e360.Ballot,0,e360.Value,0,0,0,0⟩:b5)]:List b5):List b5)), ?_⟩
 cases hm
 exact⟨(_,((W (i251+1)),(v252++([(⟨4,x.Me,to_,e360.Night,e360.Ballot,0,e360.Value,0,0,0,0⟩:b5)]:List b5)))),sb 4,hi358,Nat.lt_succ_self _⟩
 cases hm
 exact⟨(_,((W (i251+1)),v252)),sb 4,hi358,Nat.lt_succ_self _⟩
 cases hm
 cases hi358
 have hm:=hk356
 obtain⟨ev413,he,hk414⟩:=b9 hm
 refine c9k (a0W x to_) (fun(i373,v374)=>⟨[(1,DI to_),(2, .own 0 0),(6, .own 1 0),(7, .row 3 11),(13,DI i373)], [(0, .blk (a6.c x) 38),(1, .blk (b7.c x.Safe) 36),(3,rE 11 v374 b5.c 24)],4⟩) (0,v252) (sb 4) he ?_
 rintro fu415 ⟨i373,v374⟩ b hm hi416
 apply vb hm<;>intro _ hm
 refine ei hm fun e418 hm=> ?_
 apply vb hm<;>intro _ hm
 refine⟨([(⟨5,x.Me,to_,0,0,0,0,e418.No,e418.Thing,e418.From,e418.Until⟩:b5)]:List b5).flatMap b5.c,([(⟨5,x.Me,to_,0,0,0,0,e418.No,e418.Thing,e418.From,e418.Until⟩:b5)]:List b5).length,⟨rfl,rfl⟩, ?_⟩
 obtain⟨hg,hm⟩:=c7 hm
 refine⟨hg,_,_,c8 (c:=b5.c) (l:=(v374:List b5)) (r:=(([(⟨5,x.Me,to_,0,0,0,0,e418.No,e418.Thing,e418.From,e418.Until⟩:b5)]:List b5):List b5)), ?_⟩
 cases hm
 exact⟨(_,((W (i373+1)),(v374++([(⟨5,x.Me,to_,0,0,0,0,e418.No,e418.Thing,e418.From,e418.Until⟩:b5)]:List b5)))),sb 4,hi416,Nat.lt_succ_self _⟩
 cases hm
 exact⟨(_,((W (i373+1)),v374)),sb 4,hi416,Nat.lt_succ_self _⟩
 cases hm
 cases hi416
 have hm:=hk414
 obtain⟨ev440,he,hk441⟩:=b9 hm
 refine c9k (a0Y x to_) (fun(i426,v427)=>⟨[(1,DI to_),(2, .own 0 0),(6, .own 1 0),(7, .row 3 11),(15,DI i426)], [(0, .blk (a6.c x) 38),(1, .blk (b7.c x.Safe) 36),(3,rE 11 v427 b5.c 24)],4⟩) (0,v374) (sb 4) he ?_
 rintro fu442 ⟨i426,v427⟩ b hm hi443
 apply vb hm<;>intro _ hm
 refine ei hm fun e445 hm=> ?_
 apply vb hm<;>intro _ hm
 apply vb hm<;>intro _ hm
 refine⟨([(⟨6,x.Me,to_,0,0,0,0,e445.No,e445.Thing,0,e445.Until⟩:b5)]:List b5).flatMap b5.c,([(⟨6,x.Me,to_,0,0,0,0,e445.No,e445.Thing,0,e445.Until⟩:b5)]:List b5).length,⟨rfl,rfl⟩, ?_⟩
 obtain⟨hg,hm⟩:=c7 hm
 refine⟨hg,_,_,c8 (c:=b5.c) (l:=(v427:List b5)) (r:=(([(⟨6,x.Me,to_,0,0,0,0,e445.No,e445.Thing,0,e445.Until⟩:b5)]:List b5):List b5)), ?_⟩
 cases hm
 exact⟨(_,((W (i426+1)),(v427++([(⟨6,x.Me,to_,0,0,0,0,e445.No,e445.Thing,0,e445.Until⟩:b5)]:List b5)))),sb 4,hi443,Nat.lt_succ_self _⟩
 cases hm
 exact⟨(_,((W (i426+1)),v427)),sb 4,hi443,Nat.lt_succ_self _⟩
 cases hm
 exact⟨(_,((W (i426+1)),v427)),sb 4,hi443,Nat.lt_succ_self _⟩
 cases hm
 cases hi443
 have hm:=hk441
 cases hm
 exact c9j (c9h _)
def U1 (v141:a6):(Int×(List b5))→Option (Sum (Int×(List b5)) (Int×(List b5))):=fun(to_451,v452)=>
 if(decide (to_451<6))=true then
  Option.bind (a5w v141 to_451) fun⟨x466,x467⟩=>
  gd ((([]:List b5).length+v452.length)*88≤140737488355328∧([]:List b5).length+v452.length≤9223372036854775807)<|
  gd (((([]:List b5)++v452).length+x466.length)*88≤140737488355328∧(([]:List b5)++v452).length+x466.length≤9223372036854775807)<|
  some (.inl ((W (to_451+1)),((([]:List b5)++v452)++x466)))
 else
  some (.inr (to_451,v452))
def a4k (x:a0M) (y:U6):Option a0M:=
 Option.bind (w7 y.Depot 6) fun x1=>
 gd (0≤x1∧x1<6)<|
 Option.bind (idx [x.All.1,x.All.2.1,x.All.2.2.1,x.All.2.2.2.1,x.All.2.2.2.2.1,x.All.2.2.2.2.2] x1) fun e3=>
 Option.bind (w7 y.Kind 12) fun x5=>
 Option.bind (if(x5==0)=true then
  some (x5==0)
 else
  some (x5==1)) fun v75=>
 Option.bind (if v75=true then
  Option.bind (w7 y.Night 3) fun x143=>
  Option.bind (w7 y.Value 9) fun x145=>
  Option.bind (a3z e3 x143 (W (1+x145))) fun⟨x147,x148⟩=>
  some (x1,x148,x147)
 else
  Option.bind (if(x5==2)=true then
   Option.bind (a2Q y) fun x205=>
   Option.bind (a6I e3 x205) fun⟨x207,x208⟩=>
   some (x1,x208,x207)
  else
   Option.bind (if(x5==3)=true then
    Option.bind (if(decide ((e3.Now.Loans.length:Int)>0))=true then
     Option.bind (w7 y.Pick (e3.Now.Loans.length:Int)) fun x269=>
     Option.bind (idx e3.Now.Loans x269) fun e271=>
     Option.bind (w7 y.Long 130) fun x273=>
     Option.bind (a4h e3 (e271.Owner,e271.No,(W (e271.From+x273)))) fun⟨x275,x276⟩=>
     some (x276,x275)
    else
     some (1,e3)) fun⟨e266,v267⟩=>
    some (x1,e266,v267)
   else
    Option.bind (if(x5==4)=true then
     some (x5==4)
    else
     some (x5==5)) fun v280=>
    Option.bind (if v280=true then
     Option.bind (a5y e3) fun⟨x310,x311⟩=>
     some (x1,x311,x310)
    else
     Option.bind (if(x5==6)=true then
      Option.bind (a6K e3) fun⟨x334,x335⟩=>
      some (x1,x335,x334)
     else
      Option.bind (if(decide ((x.Calls.length:Int)>0))=true then
       Option.bind (w7 y.Pick (x.Calls.length:Int)) fun x351=>
       Option.bind (idx x.Calls x351) fun e353=>
       gd (0≤e353.To∧e353.To<6)<|
       Option.bind (idx [x.All.1,x.All.2.1,x.All.2.2.1,x.All.2.2.2.1,x.All.2.2.2.2.1,x.All.2.2.2.2.2] e353.To) fun e355=>
       Option.bind (a6p e355 e353) fun⟨x357,x358⟩=>
       some (e353.To,x358,x357)
      else
       some (x1,1,e3)) fun⟨d347,e348,v349⟩=>
      some (d347,e348,v349)) fun⟨d330,e331,v332⟩=>
     some (d330,e331,v332)) fun⟨d306,e307,v308⟩=>
    some (d306,e307,v308)) fun⟨d252,e253,v254⟩=>
   some (d252,e253,v254)) fun⟨d201,e202,v203⟩=>
  some (d201,e202,v203)) fun⟨d139,e140,v141⟩=>
 if(e140 !=0)=true then
  some x
 else
  gd (0≤d139∧d139<6)<|
  Option.bind (idx [x.All.1,x.All.2.1,x.All.2.2.1,x.All.2.2.2.1,x.All.2.2.2.2.1,x.All.2.2.2.2.2] d139) fun e368=>
  Option.bind (some v141) fun y370=>
  Option.bind (some (if(d139==0)=true then y370 else x.All.1)) fun q371=>
  Option.bind (some (if(d139==1)=true then y370 else x.All.2.1)) fun q372=>
  Option.bind (some (if(d139==2)=true then y370 else x.All.2.2.1)) fun q373=>
  Option.bind (some (if(d139==3)=true then y370 else x.All.2.2.2.1)) fun q374=>
  Option.bind (some (if(d139==4)=true then y370 else x.All.2.2.2.2.1)) fun q375=>
  Option.bind (some (if(d139==5)=true then y370 else x.All.2.2.2.2.2)) fun q376=>
  Option.bind (Option.bind (w7 y.Kind 12) fun x383=>
  if(x383==4)=true then
   some true
  else
   Option.bind (w7 y.Kind 12) fun x386=>
   some (x386==5)) fun v382=>
  Option.bind (if v382=true then
   Option.bind (j4 (U1 v141) (0,x.Calls)) fun(to_469,v470)=>
   some v470
  else
   some x.Calls) fun v425=>
  some (⟨(q371,q372,q373,q374,q375,q376),v425⟩:a0M)
theorem b5J (x:a0M) (y:U6) (r:a0M) (hm:a4k x y=some r):d7 Tryz.prog 17 [.agg (a0M.c x), .agg (U6.c y)] (fun x=>x= .agg (a0M.c r)):=by
 refine b9Q (X:=⟨Tryz.prog,tt,Tryz.f17.ntmps,c8c, [], [], [], [], []⟩) pok _ Tryz.func17 rfl rfl (Nat.le_of_ble_eq_true rfl) ?_
 refine cy hm (E1 y.Depot 6) fun x1 hm=> ?_
 obtain⟨hg,hm⟩:=c7 hm
 refine⟨hg, ?_⟩
 obtain⟨e3,hx4,hm⟩:=b9 hm
 refine⟨_,ldx (r:=(a6.c e3)) (c:=a6.c) (z:=13) (pre:= []) (post:= [lD 11 x.Calls b5.c]) (b:=0) (off:=0) (fun _=>rfl) hx4 rfl rfl (by omega) rfl, ?_⟩
 refine cy hm (E1 y.Kind 12) fun x5 hm=> ?_
 refine .two ?_
 obtain⟨v75,hx476,ho477⟩:=b9 hm
 refine .join (⟨[(2, .own 0 0),(3, .own 1 0),(4, .own 2 0),(5,DI x1),(6, .own 3 0),(7,DI 1),(22,DI x5),(48,DB v75)], [(0, .blk (a6.c x.All.1++(a6.c x.All.2.1++(a6.c x.All.2.2.1++(a6.c x.All.2.2.2.1++(a6.c x.All.2.2.2.2.1++(a6.c x.All.2.2.2.2.2++ [lD 11 x.Calls b5.c])))))) 42),(1, .blk (U6.c y) 59),(2, .blk [DI 0,DI 0,nS,nS,nS,nS,nS,DI 0,nS,nS,nS,nS,nS,DI 0,DI 0,nS,nS,nS,nS,nS,DI 0,nS,nS,nS,nS,nS,DI 0,DI 0,nS,nS,nS,nS,nS,DI 0,nS,nS,nS,nS,nS,DI 0,DI 0,nS,nS,nS,nS,nS,DI 0,nS,nS,nS,nS,nS,DI 0,DI 0,nS,nS,nS,nS,nS,DI 0,nS,nS,nS,nS,nS,DI 0,DI 0,nS,nS,nS,nS,nS,DI 0,nS,nS,nS,nS,nS,nS] 42),(3, .blk (a6.c e3) 38)],4⟩:Sy) True ?_ (fun _=> ?_)
 replace hm:=hx476
 apply vb hm<;>intro _ hm
 cases hm
 exact⟨trivial,sb 4⟩
 cases hm
 exact⟨trivial,sb 4⟩
 have hm:=ho477
 obtain⟨⟨d541,e542,v543⟩,hx877,ho878⟩:=b9 hm
 refine .join (⟨[(2, .own 0 0),(3, .own 1 0),(4, .own 2 0),(5,DI d541),(6, .own 3 0),(7,DI e542)], [(0, .blk (a6.c x.All.1++(a6.c x.All.2.1++(a6.c x.All.2.2.1++(a6.c x.All.2.2.2.1++(a6.c x.All.2.2.2.2.1++(a6.c x.All.2.2.2.2.2++ [lD 11 x.Calls b5.c])))))) 42),(1, .blk (U6.c y) 59),(2, .blk [DI 0,DI 0,nS,nS,nS,nS,nS,DI 0,nS,nS,nS,nS,nS,DI 0,DI 0,nS,nS,nS,nS,nS,DI 0,nS,nS,nS,nS,nS,DI 0,DI 0,nS,nS,nS,nS,nS,DI 0,nS,nS,nS,nS,nS,DI 0,DI 0,nS,nS,nS,nS,nS,DI 0,nS,nS,nS,nS,nS,DI 0,DI 0,nS,nS,nS,nS,nS,DI 0,nS,nS,nS,nS,nS,DI 0,DI 0,nS,nS,nS,nS,nS,DI 0,nS,nS,nS,nS,nS,nS] 42),(3, .blk (a6.c v543) 38)],5⟩:Sy) True ?_ (fun _=> ?_)
 replace hm:=hx877
 apply vb hm<;>intro _ hm
 refine⟨rfl, ?_⟩
 refine cy hm (E1 y.Night 3) fun x880 hm=> ?_
 refine cy hm (E1 y.Value 9) fun x882 hm=> ?_
 refine cy hm (b4o e3 x880 (W (1+x882))) ?_
 rintro⟨x884,x885⟩ hm
 cases hm
 exact⟨trivial,sb 5⟩
 obtain⟨⟨d938,e939,v940⟩,hx1104,ho1105⟩:=b9 hm
 refine .join (⟨[(2, .own 0 0),(3, .own 1 0),(4, .own 2 0),(5,DI d938),(6, .own 3 0),(7,DI e939)], [(0, .blk (a6.c x.All.1++(a6.c x.All.2.1++(a6.c x.All.2.2.1++(a6.c x.All.2.2.2.1++(a6.c x.All.2.2.2.2.1++(a6.c x.All.2.2.2.2.2++ [lD 11 x.Calls b5.c])))))) 42),(1, .blk (U6.c y) 59),(2, .blk [DI 0,DI 0,nS,nS,nS,nS,nS,DI 0,nS,nS,nS,nS,nS,DI 0,DI 0,nS,nS,nS,nS,nS,DI 0,nS,nS,nS,nS,nS,DI 0,DI 0,nS,nS,nS,nS,nS,DI 0,nS,nS,nS,nS,nS,DI 0,DI 0,nS,nS,nS,nS,nS,DI 0,nS,nS,nS,nS,nS,DI 0,DI 0,nS,nS,nS,nS,nS,DI 0,nS,nS,nS,nS,nS,DI 0,DI 0,nS,nS,nS,nS,nS,DI 0,nS,nS,nS,nS,nS,nS] 42),(3, .blk (a6.c v940) 38)],5⟩:Sy) True ?_ (fun _=> ?_)
 replace hm:=hx1104
 apply vb hm<;>intro _ hm
 refine⟨rfl, ?_⟩
 refine cy hm (b3V y) fun x1107 hm=> ?_
 refine cy hm (b9m e3 x1107) ?_
 rintro⟨x1109,x1110⟩ hm
 cases hm
 exact⟨trivial,sb 5⟩
 obtain⟨⟨d1154,e1155,v1156⟩,hx1268,ho1269⟩:=b9 hm
 refine .join (⟨[(2, .own 0 0),(3, .own 1 0),(4, .own 2 0),(5,DI d1154),(6, .own 3 0),(7,DI e1155)], [(0, .blk (a6.c x.All.1++(a6.c x.All.2.1++(a6.c x.All.2.2.1++(a6.c x.All.2.2.2.1++(a6.c x.All.2.2.2.2.1++(a6.c x.All.2.2.2.2.2++ [lD 11 x.Calls b5.c])))))) 42),(1, .blk (U6.c y) 59),(2, .blk [DI 0,DI 0,nS,nS,nS,nS,nS,DI 0,nS,nS,nS,nS,nS,DI 0,DI 0,nS,nS,nS,nS,nS,DI 0,nS,nS,nS,nS,nS,DI 0,DI 0,nS,nS,nS,nS,nS,DI 0,nS,nS,nS,nS,nS,DI 0,DI 0,nS,nS,nS,nS,nS,DI 0,nS,nS,nS,nS,nS,DI 0,DI 0,nS,nS,nS,nS,nS,DI 0,nS,nS,nS,nS,nS,DI 0,DI 0,nS,nS,nS,nS,nS,DI 0,nS,nS,nS,nS,nS,nS] 42),(3, .blk (a6.c v1156) 38)],5⟩:Sy) True ?_ (fun _=> ?_)
 replace hm:=hx1268
 apply vb hm<;>intro _ hm
 obtain⟨⟨e1281,v1282⟩,hx1295,ho1296⟩:=b9 hm
 refine .join (⟨[(2, .own 0 0),(3, .own 1 0),(4, .own 2 0),(5,DI x1),(6, .own 3 0),(7,DI e1281)], [(0, .blk (a6.c x.All.1++(a6.c x.All.2.1++(a6.c x.All.2.2.1++(a6.c x.All.2.2.2.1++(a6.c x.All.2.2.2.2.1++(a6.c x.All.2.2.2.2.2++ [lD 11 x.Calls b5.c])))))) 42),(1, .blk (U6.c y) 59),(2, .blk [DI 0,DI 0,nS,nS,nS,nS,nS,DI 0,nS,nS,nS,nS,nS,DI 0,DI 0,nS,nS,nS,nS,nS,DI 0,nS,nS,nS,nS,nS,DI 0,DI 0,nS,nS,nS,nS,nS,DI 0,nS,nS,nS,nS,nS,DI 0,DI 0,nS,nS,nS,nS,nS,DI 0,nS,nS,nS,nS,nS,DI 0,DI 0,nS,nS,nS,nS,nS,DI 0,nS,nS,nS,nS,nS,DI 0,DI 0,nS,nS,nS,nS,nS,DI 0,nS,nS,nS,nS,nS,nS] 42),(3, .blk (a6.c v1282) 38)],5⟩:Sy) True ?_ (fun _=> ?_)
 replace hm:=hx1295
 apply vb hm<;>intro _ hm
 refine⟨rfl, ?_⟩
 refine cy hm (E1 y.Pick ((e3.Now.Loans.length:Int))) fun x1298 hm=> ?_
 refine ei hm fun e1300 hm=> ?_
 refine⟨rfl, ?_⟩
 refine cy hm (E1 y.Long 130) fun x1302 hm=> ?_
 refine cy hm (b6b e3 (e1300.Owner,e1300.No,(W (e1300.From+x1302)))) ?_
 rintro⟨x1304,x1305⟩ hm
 cases hm
 exact⟨trivial,sb 5⟩
 cases hm
 exact⟨trivial,sb 5⟩
 have hm:=ho1296
 cases hm
 exact⟨trivial,sb 5⟩
 obtain⟨v1308,hx1393,ho1394⟩:=b9 hm
 refine .join (⟨[(2, .own 0 0),(3, .own 1 0),(4, .own 2 0),(5,DI x1),(6, .own 3 0),(7,DI 1),(22,DI x5),(107,DB v1308)], [(0, .blk (a6.c x.All.1++(a6.c x.All.2.1++(a6.c x.All.2.2.1++(a6.c x.All.2.2.2.1++(a6.c x.All.2.2.2.2.1++(a6.c x.All.2.2.2.2.2++ [lD 11 x.Calls b5.c])))))) 42),(1, .blk (U6.c y) 59),(2, .blk [DI 0,DI 0,nS,nS,nS,nS,nS,DI 0,nS,nS,nS,nS,nS,DI 0,DI 0,nS,nS,nS,nS,nS,DI 0,nS,nS,nS,nS,nS,DI 0,DI 0,nS,nS,nS,nS,nS,DI 0,nS,nS,nS,nS,nS,DI 0,DI 0,nS,nS,nS,nS,nS,DI 0,nS,nS,nS,nS,nS,DI 0,DI 0,nS,nS,nS,nS,nS,DI 0,nS,nS,nS,nS,nS,DI 0,DI 0,nS,nS,nS,nS,nS,DI 0,nS,nS,nS,nS,nS,nS] 42),(3, .blk (a6.c e3) 38)],4⟩:Sy) True ?_ (fun _=> ?_)
 replace hm:=hx1393
 apply vb hm<;>intro _ hm
 cases hm
 exact⟨trivial,sb 4⟩
 cases hm
 exact⟨trivial,sb 4⟩
 have hm:=ho1394
 obtain⟨⟨d1420,e1421,v1422⟩,hx1478,ho1479⟩:=b9 hm
 refine .join (⟨[(2, .own 0 0),(3, .own 1 0),(4, .own 2 0),(5,DI d1420),(6, .own 3 0),(7,DI e1421)], [(0, .blk (a6.c x.All.1++(a6.c x.All.2.1++(a6.c x.All.2.2.1++(a6.c x.All.2.2.2.1++(a6.c x.All.2.2.2.2.1++(a6.c x.All.2.2.2.2.2++ [lD 11 x.Calls b5.c])))))) 42),(1, .blk (U6.c y) 59),(2, .blk [DI 0,DI 0,nS,nS,nS,nS,nS,DI 0,nS,nS,nS,nS,nS,DI 0,DI 0,nS,nS,nS,nS,nS,DI 0,nS,nS,nS,nS,nS,DI 0,DI 0,nS,nS,nS,nS,nS,DI 0,nS,nS,nS,nS,nS,DI 0,DI 0,nS,nS,nS,nS,nS,DI 0,nS,nS,nS,nS,nS,DI 0,DI 0,nS,nS,nS,nS,nS,DI 0,nS,nS,nS,nS,nS,DI 0,DI 0,nS,nS,nS,nS,nS,DI 0,nS,nS,nS,nS,nS,nS] 42),(3, .blk (a6.c v1422) 38)],5⟩:Sy) True ?_ (fun _=> ?_)
 replace hm:=hx1478
 apply vb hm<;>intro _ hm
 refine cy hm (b7I e3) ?_
 rintro⟨x1481,x1482⟩ hm
 cases hm
 exact⟨trivial,sb 5⟩
 obtain⟨⟨d1501,e1502,v1503⟩,hx1534,ho1535⟩:=b9 hm
 refine .join (⟨[(2, .own 0 0),(3, .own 1 0),(4, .own 2 0),(5,DI d1501),(6, .own 3 0),(7,DI e1502)], [(0, .blk (a6.c x.All.1++(a6.c x.All.2.1++(a6.c x.All.2.2.1++(a6.c x.All.2.2.2.1++(a6.c x.All.2.2.2.2.1++(a6.c x.All.2.2.2.2.2++ [lD 11 x.Calls b5.c])))))) 42),(1, .blk (U6.c y) 59),(2, .blk [DI 0,DI 0,nS,nS,nS,nS,nS,DI 0,nS,nS,nS,nS,nS,DI 0,DI 0,nS,nS,nS,nS,nS,DI 0,nS,nS,nS,nS,nS,DI 0,DI 0,nS,nS,nS,nS,nS,DI 0,nS,nS,nS,nS,nS,DI 0,DI 0,nS,nS,nS,nS,nS,DI 0,nS,nS,nS,nS,nS,DI 0,DI 0,nS,nS,nS,nS,nS,DI 0,nS,nS,nS,nS,nS,DI 0,DI 0,nS,nS,nS,nS,nS,DI 0,nS,nS,nS,nS,nS,nS] 42),(3, .blk (a6.c v1503) 38)],5⟩:Sy) True ?_ (fun _=> ?_)
 replace hm:=hx1534
 apply vb hm<;>intro _ hm
 refine cy hm (b8N e3) ?_
 rintro⟨x1537,x1538⟩ hm
 cases hm
 exact⟨trivial,sb 5⟩
 obtain⟨⟨d1550,e1551,v1552⟩,hx1565,ho1566⟩:=b9 hm
 refine .join (⟨[(2, .own 0 0),(3, .own 1 0),(4, .own 2 0),(5,DI d1550),(6, .own 3 0),(7,DI e1551)], [(0, .blk (a6.c x.All.1++(a6.c x.All.2.1++(a6.c x.All.2.2.1++(a6.c x.All.2.2.2.1++(a6.c x.All.2.2.2.2.1++(a6.c x.All.2.2.2.2.2++ [lD 11 x.Calls b5.c])))))) 42),(1, .blk (U6.c y) 59),(2, .blk [DI 0,DI 0,nS,nS,nS,nS,nS,DI 0,nS,nS,nS,nS,nS,DI 0,DI 0,nS,nS,nS,nS,nS,DI 0,nS,nS,nS,nS,nS,DI 0,DI 0,nS,nS,nS,nS,nS,DI 0,nS,nS,nS,nS,nS,DI 0,DI 0,nS,nS,nS,nS,nS,DI 0,nS,nS,nS,nS,nS,DI 0,DI 0,nS,nS,nS,nS,nS,DI 0,nS,nS,nS,nS,nS,DI 0,DI 0,nS,nS,nS,nS,nS,DI 0,nS,nS,nS,nS,nS,nS] 42),(3, .blk (a6.c v1552) 38)],5⟩:Sy) True ?_ (fun _=> ?_)
 replace hm:=hx1565
 apply vb hm<;>intro _ hm
 refine⟨rfl, ?_⟩
 refine cy hm (E1 y.Pick ((x.Calls.length:Int))) fun x1568 hm=> ?_
 refine ei hm fun e1570 hm=> ?_
 refine⟨rfl, ?_⟩
 obtain⟨hg,hm⟩:=c7 hm
 refine⟨hg, ?_⟩
 obtain⟨e1572,hx1573,hm⟩:=b9 hm
 refine⟨_,ldx (r:=(a6.c e1572)) (c:=a6.c) (z:=13) (pre:= []) (post:= [lD 11 x.Calls b5.c]) (b:=0) (off:=0) (fun _=>rfl) hx1573 rfl rfl (by omega) rfl, ?_⟩
 refine cy hm (b8E e1572 e1570) ?_
 rintro⟨x1574,x1575⟩ hm
 cases hm
 exact⟨trivial,sb 5⟩
 cases hm
 exact⟨trivial,sb 5⟩
 have hm:=ho1566
 cases hm
 exact⟨trivial,sb 5⟩
 have hm:=ho1535
 cases hm
 exact⟨trivial,sb 5⟩
 have hm:=ho1479
 cases hm
 exact⟨trivial,sb 5⟩
 have hm:=ho1269
 cases hm
 exact⟨trivial,sb 5⟩
 have hm:=ho1105
 cases hm
 exact⟨trivial,sb 5⟩
 have hm:=ho878
 refine .two ?_
 apply vb hm<;>intro _ hm
 cases hm
 exact c9j (c9h _)
 obtain⟨hg,hm⟩:=c7 hm
 refine⟨hg, ?_⟩
 obtain⟨e1579,hx1580,hm⟩:=b9 hm
 obtain⟨y1581,hy,hm⟩:=b9 hm
 obtain⟨q1582,hq0,hm⟩:=b9 hm
 obtain⟨q1583,hq1,hm⟩:=b9 hm
 obtain⟨q1584,hq2,hm⟩:=b9 hm
 obtain⟨q1585,hq3,hm⟩:=b9 hm
 obtain⟨q1586,hq4,hm⟩:=b9 hm
 obtain⟨q1587,hq5,hm⟩:=b9 hm
 refine⟨(a6.c q1582++(a6.c q1583++(a6.c q1584++(a6.c q1585++(a6.c q1586++(a6.c q1587++ [lD 11 x.Calls b5.c])))))),stx (y:=y1581) (ys:= [q1582,q1583,q1584,q1585,q1586,q1587]) (c:=a6.c) (z:=13) (pre:= []) (post:= [lD 11 x.Calls b5.c]) (b:=0) (off:=0) (fun _=>rfl) hx1580 rfl rfl (by omega) (by cases hy;rfl) rfl (by cases hq0;cases hq1;cases hq2;cases hq3;cases hq4;cases hq5;exact b7w hx1580), ?_⟩
 clear hy hq0 hq1 hq2 hq3 hq4 hq5
 obtain⟨v1593,hx1685,ho1686⟩:=b9 hm
 refine .join (⟨[(2, .own 0 0),(4, .own 2 0),(6, .own 3 0),(138,DB v1593)], [(0, .blk (a6.c q1582++(a6.c q1583++(a6.c q1584++(a6.c q1585++(a6.c q1586++(a6.c q1587++ [lD 11 x.Calls b5.c])))))) 42),(2, .blk [DI 0,DI 0,nS,nS,nS,nS,nS,DI 0,nS,nS,nS,nS,nS,DI 0,DI 0,nS,nS,nS,nS,nS,DI 0,nS,nS,nS,nS,nS,DI 0,DI 0,nS,nS,nS,nS,nS,DI 0,nS,nS,nS,nS,nS,DI 0,DI 0,nS,nS,nS,nS,nS,DI 0,nS,nS,nS,nS,nS,DI 0,DI 0,nS,nS,nS,nS,nS,DI 0,nS,nS,nS,nS,nS,DI 0,DI 0,nS,nS,nS,nS,nS,DI 0,nS,nS,nS,nS,nS,nS] 42),(3, .blk (a6.c v543) 38)],5⟩:Sy) True ?_ (fun _=> ?_)
 replace hm:=hx1685
 refine cy hm (E1 y.Kind 12) fun x1687 hm=> ?_
 apply vb hm<;>intro _ hm
 cases hm
 exact⟨trivial,sb 5⟩
 refine cy hm (E1 y.Kind 12) fun x1690 hm=> ?_
 cases hm
 exact⟨trivial,sb 5⟩
 have hm:=ho1686
 obtain⟨v1729,hx1777,ho1778⟩:=b9 hm
 refine .join (⟨[(2, .own 0 0),(4, .own 2 0)], [(0, .blk (a6.c q1582++(a6.c q1583++(a6.c q1584++(a6.c q1585++(a6.c q1586++(a6.c q1587++ [lD 11 v1729 b5.c])))))) 42),(2, .blk [DI 0,DI 0,nS,nS,nS,nS,nS,DI 0,nS,nS,nS,nS,nS,DI 0,DI 0,nS,nS,nS,nS,nS,DI 0,nS,nS,nS,nS,nS,DI 0,DI 0,nS,nS,nS,nS,nS,DI 0,nS,nS,nS,nS,nS,DI 0,DI 0,nS,nS,nS,nS,nS,DI 0,nS,nS,nS,nS,nS,DI 0,DI 0,nS,nS,nS,nS,nS,DI 0,nS,nS,nS,nS,nS,DI 0,DI 0,nS,nS,nS,nS,nS,DI 0,nS,nS,nS,nS,nS,nS] 42)],5⟩:Sy) True ?_ (fun _=> ?_)
 replace hm:=hx1777
 apply vb hm<;>intro _ hm
 refine .two ?_
 obtain⟨ev1824,he,hk1825⟩:=b9 hm
 refine c9k (U1 v543) (fun(to_1804,v1805)=>⟨[(2, .own 0 0),(4, .own 2 0),(6, .own 3 0),(10,DI to_1804)], [(0, .blk (a6.c q1582++(a6.c q1583++(a6.c q1584++(a6.c q1585++(a6.c q1586++(a6.c q1587++ [lD 11 v1805 b5.c])))))) 42),(2, .blk [DI 0,DI 0,nS,nS,nS,nS,nS,DI 0,nS,nS,nS,nS,nS,DI 0,DI 0,nS,nS,nS,nS,nS,DI 0,nS,nS,nS,nS,nS,DI 0,DI 0,nS,nS,nS,nS,nS,DI 0,nS,nS,nS,nS,nS,DI 0,DI 0,nS,nS,nS,nS,nS,DI 0,nS,nS,nS,nS,nS,DI 0,DI 0,nS,nS,nS,nS,nS,DI 0,nS,nS,nS,nS,nS,DI 0,DI 0,nS,nS,nS,nS,nS,DI 0,nS,nS,nS,nS,nS,nS] 42),(3, .blk (a6.c v543) 38)],5⟩) (0,x.Calls) (sb 5) he ?_
 rintro fu1826 ⟨to_1804,v1805⟩ b hm hi1827
 refine .two ?_
 apply vb hm<;>intro _ hm
 refine .two ?_
 refine cy hm (b7b v543 to_1804) ?_
 rintro⟨x1833,x1834⟩ hm
 refine⟨([]:List b5).flatMap b5.c,([]:List b5).length,⟨rfl,rfl⟩, ?_⟩
 obtain⟨hg,hm⟩:=c7 hm
 refine⟨hg,_,_,c8 (c:=b5.c) (l:=(([]:List b5):List b5)) (r:=(v1805:List b5)), ?_⟩
 obtain⟨hg,hm⟩:=c7 hm
 refine⟨hg,_,_,c8 (c:=b5.c) (l:=((([]:List b5)++v1805):List b5)) (r:=(x1833:List b5)), ?_⟩
 cases hm
 exact⟨(_,((W (to_1804+1)),((([]:List b5)++v1805)++x1833))),Q0.fz [5] rfl 5 rfl (tA rfl) ⟨hR rfl,hR rfl,hR rfl,trivial⟩,hi1827,Nat.lt_succ_self _⟩
 cases hm
 cases hi1827
 have hm:=hk1825
 cases hm
 exact⟨trivial,sb 5⟩
 cases hm
 exact⟨trivial,sb 5⟩
 have hm:=ho1778
 cases hm
 exact c9j (c9h _)
def a1F (l:(List U6)) (many:Int):(Int×a0M)→Option (Sum (Int×a0M) (Int×a0M)):=fun(i9,v10)=>
 if(decide (i9<(l.length:Int)))=true then
  if(decide (i9<many))=true then
   Option.bind (idx l i9) fun e19=>
   Option.bind (a4k v10 e19) fun x21=>
   some (.inl ((W (i9+1)),x21))
  else
   some (.inr (i9,v10))
 else
  some (.inr (i9,v10))
def a4e (l:(List U6)) (many:Int):Option a0M:=
 Option.bind (a5f) fun x1=>
 Option.bind (j4 (a1F l many) (0,x1)) fun(i23,v24)=>
 some v24
theorem b6n (l:(List U6)) (many:Int) (r:a0M) (hm:a4e l many=some r):d7 Tryz.prog 4 [lD 9 l U6.c,DI many] (fun x=>x= .agg (a0M.c r)):=by
 refine zy pl4 [] [] [] Tryz.func4 rfl ?_
 refine cy hm (b8i) fun x1 hm=> ?_
 obtain⟨ev25,he,hk26⟩:=b9 hm
 refine c9k (a1F l many) (fun(i9,v10)=>⟨[(0,lD 9 l U6.c),(1,DI many),(4, .own 0 0),(5, .own 1 0),(6,DI i9)], [(0, .blk [DI 0,DI 0,nS,nS,nS,nS,nS,DI 0,nS,nS,nS,nS,nS,DI 0,DI 0,nS,nS,nS,nS,nS,DI 0,nS,nS,nS,nS,nS,DI 0,DI 0,nS,nS,nS,nS,nS,DI 0,nS,nS,nS,nS,nS,DI 0,DI 0,nS,nS,nS,nS,nS,DI 0,nS,nS,nS,nS,nS,DI 0,DI 0,nS,nS,nS,nS,nS,DI 0,nS,nS,nS,nS,nS,DI 0,DI 0,nS,nS,nS,nS,nS,DI 0,nS,nS,nS,nS,nS,nS] 42),(1, .blk (a6.c v10.All.1++(a6.c v10.All.2.1++(a6.c v10.All.2.2.1++(a6.c v10.All.2.2.2.1++(a6.c v10.All.2.2.2.2.1++(a6.c v10.All.2.2.2.2.2++ [lD 11 v10.Calls b5.c])))))) 42)],2⟩) (0,x1) (sb 2) he ?_
 rintro fu27 ⟨i9,v10⟩ b hm hi28
 apply vb hm<;>intro _ hm
 apply vb hm<;>intro _ hm
 refine⟨rfl, ?_⟩
 refine ei hm fun e31 hm=> ?_
 refine cy hm (b5J v10 e31) fun x33 hm=> ?_
 cases hm
 exact⟨(_,((W (i9+1)),x33)),sb 2,hi28,Nat.lt_succ_self _⟩
 cases hm
 cases hi28
 have hm:=hk26
 cases hm
 exact c9j (c9h _)
 cases hm
 cases hi28
 have hm:=hk26
 cases hm
 exact c9j (c9h _)
def H3 (s:List a8):Option (List a8):=gd (s.length*32≤140737488355328∧s.length≤9223372036854775807) (some s)
theorem a2K (s:List a8) (r:List a8) (hm:H3 s=some r):d7 Tryz.prog 67 [.lst 4 s.length (s.flatMap a8.c)] (fun x=>x= .lst 4 r.length (r.flatMap a8.c)):=by
 obtain⟨hg,hm⟩:=c7 hm
 cases hm
 refine zn Tryz.func67 rfl ?_
 intro b hb
 refine VIf.mk (fun h=> ?_) (fun h=> ?_)
 · have h0:=hb h
   have h1:s= []:=List.eq_nil_of_length_eq_zero h0
   subst h1
   exact c9j c9i
 · refine⟨[],0,⟨rfl,rfl⟩, ?_⟩
   exact⟨by omega,s.flatMap a8.c,s.length,⟨rfl,Nat.zero_add _⟩,c9j (c9h _)⟩
theorem a2T (s:List a8) (r:List a8) (hm:H3 s=some r):b1h Tryz.prog 67 [.lst 4 s.length (s.flatMap a8.c)] 4 r.length (r.flatMap a8.c) 87:=by
 obtain⟨hg,hm⟩:=c7 hm
 cases hm
 refine a9W (X:=⟨Tryz.prog,tt,Tryz.f67.ntmps, [], [], [], [], [], []⟩) pok _ Tryz.func67 rfl rfl (Nat.le_of_ble_eq_true rfl) ?_
 intro b hb
 refine VIf.mk (fun h=> ?_) (fun h=> ?_)
 · have h0:=hb h
   have h1:s= []:=List.eq_nil_of_length_eq_zero h0
   subst h1
   exact⟨rfl,rfl⟩
 · refine⟨[],0,⟨rfl,rfl⟩, ?_⟩
   exact⟨by omega,s.flatMap a8.c,s.length,⟨rfl,Nat.zero_add _⟩,⟨rfl,rfl⟩⟩
def J6 (s:List c0):Option (List c0):=gd (s.length*48≤140737488355328∧s.length≤9223372036854775807) (some s)
theorem a3e (s:List c0) (r:List c0) (hm:J6 s=some r):d7 Tryz.prog 68 [.lst 6 s.length (s.flatMap c0.c)] (fun x=>x= .lst 6 r.length (r.flatMap c0.c)):=by
 obtain⟨hg,hm⟩:=c7 hm
 cases hm
 refine zn Tryz.func68 rfl ?_
 intro b hb
 refine VIf.mk (fun h=> ?_) (fun h=> ?_)
 · have h0:=hb h
   have h1:s= []:=List.eq_nil_of_length_eq_zero h0
   subst h1
   exact c9j c9i
 · refine⟨[],0,⟨rfl,rfl⟩, ?_⟩
   exact⟨by omega,s.flatMap c0.c,s.length,⟨rfl,Nat.zero_add _⟩,c9j (c9h _)⟩
theorem a3t (s:List c0) (r:List c0) (hm:J6 s=some r):b1h Tryz.prog 68 [.lst 6 s.length (s.flatMap c0.c)] 6 r.length (r.flatMap c0.c) 67:=by
 obtain⟨hg,hm⟩:=c7 hm
 cases hm
 refine a9W (X:=⟨Tryz.prog,tt,Tryz.f68.ntmps, [], [], [], [], [], []⟩) pok _ Tryz.func68 rfl rfl (Nat.le_of_ble_eq_true rfl) ?_
 intro b hb
 refine VIf.mk (fun h=> ?_) (fun h=> ?_)
 · have h0:=hb h
   have h1:s= []:=List.eq_nil_of_length_eq_zero h0
   subst h1
   exact⟨rfl,rfl⟩
 · refine⟨[],0,⟨rfl,rfl⟩, ?_⟩
   exact⟨by omega,s.flatMap c0.c,s.length,⟨rfl,Nat.zero_add _⟩,⟨rfl,rfl⟩⟩
def E2 (s:List a7):Option (List a7):=gd (s.length*32≤140737488355328∧s.length≤9223372036854775807) (some s)
theorem a1N (s:List a7) (r:List a7) (hm:E2 s=some r):d7 Tryz.prog 69 [.lst 4 s.length (s.flatMap a7.c)] (fun x=>x= .lst 4 r.length (r.flatMap a7.c)):=by
 obtain⟨hg,hm⟩:=c7 hm
 cases hm
 refine zn Tryz.func69 rfl ?_
 intro b hb
 refine VIf.mk (fun h=> ?_) (fun h=> ?_)
 · have h0:=hb h
   have h1:s= []:=List.eq_nil_of_length_eq_zero h0
   subst h1
   exact c9j c9i
 · refine⟨[],0,⟨rfl,rfl⟩, ?_⟩
   exact⟨by omega,s.flatMap a7.c,s.length,⟨rfl,Nat.zero_add _⟩,c9j (c9h _)⟩
theorem a1T (s:List a7) (r:List a7) (hm:E2 s=some r):b1h Tryz.prog 69 [.lst 4 s.length (s.flatMap a7.c)] 4 r.length (r.flatMap a7.c) 89:=by
 obtain⟨hg,hm⟩:=c7 hm
 cases hm
 refine a9W (X:=⟨Tryz.prog,tt,Tryz.f69.ntmps, [], [], [], [], [], []⟩) pok _ Tryz.func69 rfl rfl (Nat.le_of_ble_eq_true rfl) ?_
 intro b hb
 refine VIf.mk (fun h=> ?_) (fun h=> ?_)
 · have h0:=hb h
   have h1:s= []:=List.eq_nil_of_length_eq_zero h0
   subst h1
   exact⟨rfl,rfl⟩
 · refine⟨[],0,⟨rfl,rfl⟩, ?_⟩
   exact⟨by omega,s.flatMap a7.c,s.length,⟨rfl,Nat.zero_add _⟩,⟨rfl,rfl⟩⟩
def E7 (s:List b8):Option (List b8):=gd (s.length*40≤140737488355328∧s.length≤9223372036854775807) (some s)
theorem a1Z (s:List b8) (r:List b8) (hm:E7 s=some r):d7 Tryz.prog 70 [.lst 5 s.length (s.flatMap b8.c)] (fun x=>x= .lst 5 r.length (r.flatMap b8.c)):=by
 obtain⟨hg,hm⟩:=c7 hm
 cases hm
 refine zn Tryz.func70 rfl ?_
 intro b hb
 refine VIf.mk (fun h=> ?_) (fun h=> ?_)
 · have h0:=hb h
   have h1:s= []:=List.eq_nil_of_length_eq_zero h0
   subst h1
   exact c9j c9i
 · refine⟨[],0,⟨rfl,rfl⟩, ?_⟩
   exact⟨by omega,s.flatMap b8.c,s.length,⟨rfl,Nat.zero_add _⟩,c9j (c9h _)⟩
theorem a1V (s:List b8) (r:List b8) (hm:E7 s=some r):b1h Tryz.prog 70 [.lst 5 s.length (s.flatMap b8.c)] 5 r.length (r.flatMap b8.c) 73:=by
 obtain⟨hg,hm⟩:=c7 hm
 cases hm
 refine a9W (X:=⟨Tryz.prog,tt,Tryz.f70.ntmps, [], [], [], [], [], []⟩) pok _ Tryz.func70 rfl rfl (Nat.le_of_ble_eq_true rfl) ?_
 intro b hb
 refine VIf.mk (fun h=> ?_) (fun h=> ?_)
 · have h0:=hb h
   have h1:s= []:=List.eq_nil_of_length_eq_zero h0
   subst h1
   exact⟨rfl,rfl⟩
 · refine⟨[],0,⟨rfl,rfl⟩, ?_⟩
   exact⟨by omega,s.flatMap b8.c,s.length,⟨rfl,Nat.zero_add _⟩,⟨rfl,rfl⟩⟩
def G9 (s:List b6):Option (List b6):=gd (s.length*48≤140737488355328∧s.length≤9223372036854775807) (some s)
theorem a2H (s:List b6) (r:List b6) (hm:G9 s=some r):d7 Tryz.prog 71 [.lst 6 s.length (s.flatMap b6.c)] (fun x=>x= .lst 6 r.length (r.flatMap b6.c)):=by
 obtain⟨hg,hm⟩:=c7 hm
 cases hm
 refine zn Tryz.func71 rfl ?_
 intro b hb
 refine VIf.mk (fun h=> ?_) (fun h=> ?_)
 · have h0:=hb h
   have h1:s= []:=List.eq_nil_of_length_eq_zero h0
   subst h1
   exact c9j c9i
 · refine⟨[],0,⟨rfl,rfl⟩, ?_⟩
   exact⟨by omega,s.flatMap b6.c,s.length,⟨rfl,Nat.zero_add _⟩,c9j (c9h _)⟩
theorem a2S (s:List b6) (r:List b6) (hm:G9 s=some r):b1h Tryz.prog 71 [.lst 6 s.length (s.flatMap b6.c)] 6 r.length (r.flatMap b6.c) 78:=by
 obtain⟨hg,hm⟩:=c7 hm
 cases hm
 refine a9W (X:=⟨Tryz.prog,tt,Tryz.f71.ntmps, [], [], [], [], [], []⟩) pok _ Tryz.func71 rfl rfl (Nat.le_of_ble_eq_true rfl) ?_
 intro b hb
 refine VIf.mk (fun h=> ?_) (fun h=> ?_)
 · have h0:=hb h
   have h1:s= []:=List.eq_nil_of_length_eq_zero h0
   subst h1
   exact⟨rfl,rfl⟩
 · refine⟨[],0,⟨rfl,rfl⟩, ?_⟩
   exact⟨by omega,s.flatMap b6.c,s.length,⟨rfl,Nat.zero_add _⟩,⟨rfl,rfl⟩⟩
def C5 (s:b7):Option b7:=
 Option.bind (H3 s.Slots) fun x1=>
 Option.bind (J6 s.Bids) fun x3=>
 Option.bind (E2 s.Heard) fun x5=>
 Option.bind (E7 s.Leases) fun x7=>
 Option.bind (G9 s.Loans) fun x9=>
 some (⟨s.Round,x1,x3,x5,x7,x9⟩:b7)
theorem M7 (s:b7) (r:b7) (hm:C5 s=some r):d7 Tryz.prog 32 [.agg (b7.c s)] (fun x=>x= .agg (b7.c r)):=by
 refine zy c7a [] [] [] Tryz.func32 rfl ?_
 refine⟨rfl, ?_⟩
 obtain⟨x1,hx2,hm⟩:=b9 hm
 refine a4R.det (a2K s.Slots _ hx2) ?_
 obtain⟨x3,hx4,hm⟩:=b9 hm
 refine a4R.det (a3e s.Bids _ hx4) ?_
 obtain⟨x5,hx6,hm⟩:=b9 hm
 refine a4R.det (a1N s.Heard _ hx6) ?_
 obtain⟨x7,hx8,hm⟩:=b9 hm
 refine a4R.det (a1Z s.Leases _ hx8) ?_
 obtain⟨x9,hx10,hm⟩:=b9 hm
 refine a4R.det (a2H s.Loans _ hx10) ?_
 cases hm
 exact c9j (c9h _)
theorem L1 (s:b7) (r:b7) (hm:C5 s=some r):b5u Tryz.prog 32 [.agg (b7.c s)] [(4,r.Slots.length,r.Slots.flatMap a8.c,87),(6,r.Bids.length,r.Bids.flatMap c0.c,67),(4,r.Heard.length,r.Heard.flatMap a7.c,89),(5,r.Leases.length,r.Leases.flatMap b8.c,73),(6,r.Loans.length,r.Loans.flatMap b6.c,78)] [DI r.Round, .row 0 4, .row 1 6, .row 2 4, .row 3 5, .row 4 6]:=by
 refine b6E (X:=⟨Tryz.prog,tt,Tryz.f32.ntmps,c7a, [51,76,144,145,173], [67,68,69,70,71], [], [], []⟩) pok _ Tryz.func32 rfl rfl (Nat.le_of_ble_eq_true rfl) rfl ?_
 refine⟨rfl, ?_⟩
 obtain⟨x1,hx2,hm⟩:=b9 hm
 refine .inl (b3d.mk ⟨_,_,_,_,a2T s.Slots _ hx2, ?_⟩)
 obtain⟨x3,hx4,hm⟩:=b9 hm
 refine .inl (b3d.mk ⟨_,_,_,_,a3t s.Bids _ hx4, ?_⟩)
 obtain⟨x5,hx6,hm⟩:=b9 hm
 refine .inl (b3d.mk ⟨_,_,_,_,a1T s.Heard _ hx6, ?_⟩)
 obtain⟨x7,hx8,hm⟩:=b9 hm
 refine .inl (b3d.mk ⟨_,_,_,_,a1V s.Leases _ hx8, ?_⟩)
 obtain⟨x9,hx10,hm⟩:=b9 hm
 refine .inl (b3d.mk ⟨_,_,_,_,a2S s.Loans _ hx10, ?_⟩)
 cases hm
 exact⟨rfl,⟨⟨rfl,rfl⟩,⟨⟨rfl,rfl,rfl,rfl⟩,⟨⟨rfl,rfl,rfl,rfl⟩,⟨⟨rfl,rfl,rfl,rfl⟩,⟨⟨rfl,rfl,rfl,rfl⟩,⟨⟨rfl,rfl,rfl,rfl⟩,rfl⟩⟩⟩⟩⟩⟩⟩
def a1J (x:Int):Option Bool:=
 some (x !=x)
theorem a6T (x:Int) (r:Bool) (hm:a1J x=some r):d7 Tryz.prog 93 [DI x] (fun x=>x=DB r):=by
 refine zn Tryz.func93 rfl ?_
 exact hm.rr
def H5 (x:Int) (y:Int):Option Int:=
 Option.bind (a1J x) fun x1=>
 Option.bind (a1J y) fun x3=>
 if x1=true then
  if x3=true then
   some 0
  else
   some (-1)
 else
  if x3=true then
   some 1
  else
   if(decide (x<y))=true then
    some (-1)
   else
    if(decide (x>y))=true then
     some 1
    else
     some 0
theorem P5 (x:Int) (y:Int) (r:Int) (hm:H5 x y=some r):d7 Tryz.prog 52 [DI x,DI y] (fun x=>x=DI r):=by
 refine zn Tryz.func52 rfl ?_
 refine cy hm (a6T x) fun x1 hm=> ?_
 refine cy hm (a6T y) fun x3 hm=> ?_
 apply vb hm<;>intro _ hm
 apply vb hm<;>intro _ hm
 exact hm.rr
 exact hm.rr
 apply vb hm<;>intro _ hm
 exact hm.rr
 apply vb hm<;>intro _ hm
 exact hm.rr
 apply vb hm<;>intro _ hm
 exact hm.rr
 exact hm.rr
def I6 (a:c0) (b_:c0):Option Int:=
 Option.bind (H5 a.Night b_.Night) fun x1=>
 some x1
theorem a0N (a:c0) (b_:c0) (r:Int) (hm:I6 a b_=some r):d7 Tryz.prog 22 [.agg (c0.c a), .agg (c0.c b_)] (fun x=>x=DI r):=by
 refine zn Tryz.func22 rfl ?_
 refine cy hm (P5 a.Night b_.Night) fun x1 hm=> ?_
 exact hm.rr
def i5 (n:Int) (lo:Int) (hi:Int):Option Bool:=
 if(decide (lo≤n))=true then
  some (decide (n≤hi))
 else
  some false
theorem k9 (n:Int) (lo:Int) (hi:Int) (r:Bool) (hm:i5 n lo hi=some r):d7 Tryz.prog 49 [DI n,DI lo,DI hi] (fun x=>x=DB r):=by
 refine zn Tryz.func49 rfl ?_
 apply vb hm<;>intro _ hm
 exact hm.rr
 exact hm.rr
def u7 (n:Int):Option Bool:=
 Option.bind (i5 n 0 5) fun x1=>
 some x1
theorem A2 (n:Int) (r:Bool) (hm:u7 n=some r):d7 Tryz.prog 24 [DI n] (fun x=>x=DB r):=by
 refine zn Tryz.func24 rfl ?_
 refine cy hm (k9 n 0 5) fun x1 hm=> ?_
 exact hm.rr
def a0t (vals:(List Int)):Int→Option (Sum Int (Sum Int Int)):=fun v5=>
 if(decide (v5<(vals.length:Int)))=true then
  Option.bind (idx vals v5) fun e11=>
  if(e11 !=0)=true then
   some (.inr (.inr e11))
  else
   some (.inl (W (v5+1)))
 else
  some (.inr (.inl v5))
def a2A (vals:(List Int)):Option Int:=
 Option.bind (j4 (a0t vals) 0) fun e=>
 match e with
 | .inl v14=>
  some 0
 | .inr rr15=>
  some rr15
theorem a9K (vals:(List Int)) (r:Int) (hm:a2A vals=some r):d7 Tryz.prog 57 [lD 1 vals cI] (fun x=>x=DI r):=by
 refine zn Tryz.func57 rfl ?_
 obtain⟨ev16,he,hk17⟩:=b9 hm
 refine c9k (a0t vals) (fun v5=>⟨[(3,DI 0),(6,lD 1 vals cI),(7,DI (vals.length:Int)),(8,DI v5)], [],0⟩) 0 (sb 0) he ?_
 rintro fu18 v5 b hm hi19
 apply vb hm<;>intro _ hm
 refine ei hm fun _ hm=> ?_
 apply vb hm<;>intro _ hm
 cases hm
 cases hi19
 have hm:=hk17
 exact hm.rr
 cases hm
 exact⟨(_,(W (v5+1))),sb 0,hi19,Nat.lt_succ_self _⟩
 cases hm
 cases hi19
 have hm:=hk17
 exact hm.rr
def G7 (a:b6) (b_:b6):Option Int:=
 Option.bind (H5 a.Owner b_.Owner) fun x1=>
 Option.bind (H5 a.No b_.No) fun x3=>
 Option.bind (a2A ([x1,x3]:List Int)) fun x5=>
 some x5
theorem a0A (a:b6) (b_:b6) (r:Int) (hm:G7 a b_=some r):d7 Tryz.prog 29 [.agg (b6.c a), .agg (b6.c b_)] (fun x=>x=DI r):=by
 refine zy c8t [] [] [] Tryz.func29 rfl ?_
 refine⟨rfl, ?_⟩
 refine cy hm (P5 a.Owner b_.Owner) fun x1 hm=> ?_
 refine cy hm (P5 a.No b_.No) fun x3 hm=> ?_
 refine⟨([x1,x3]:List Int).flatMap cI,([x1,x3]:List Int).length,⟨rfl,rfl⟩, ?_⟩
 refine co hm (a9K (([x1,x3]:List Int))) fun x5 hm=> ?_
 exact hm.rr
def G8 (a:a7) (b_:a7):Option Int:=
 Option.bind (H5 a.Ballot b_.Ballot) fun x1=>
 Option.bind (H5 a.Night b_.Night) fun x3=>
 Option.bind (a2A ([x1,x3]:List Int)) fun x5=>
 some x5
theorem a0z (a:a7) (b_:a7) (r:Int) (hm:G8 a b_=some r):d7 Tryz.prog 102 [.agg (a7.c a), .agg (a7.c b_)] (fun x=>x=DI r):=by
 refine zy c6C [] [] [] Tryz.func102 rfl ?_
 refine⟨rfl, ?_⟩
 refine cy hm (P5 a.Ballot b_.Ballot) fun x1 hm=> ?_
 refine cy hm (P5 a.Night b_.Night) fun x3 hm=> ?_
 refine⟨([x1,x3]:List Int).flatMap cI,([x1,x3]:List Int).length,⟨rfl,rfl⟩, ?_⟩
 refine co hm (a9K (([x1,x3]:List Int))) fun x5 hm=> ?_
 exact hm.rr
def u6 (n:Int):Option Bool:=
 Option.bind (i5 n 0 100000) fun x1=>
 some x1
theorem A3 (n:Int) (r:Bool) (hm:u6 n=some r):d7 Tryz.prog 19 [DI n] (fun x=>x=DB r):=by
 refine zn Tryz.func19 rfl ?_
 refine cy hm (k9 n 0 100000) fun x1 hm=> ?_
 exact hm.rr
def j0 (n:Int):Option Bool:=
 Option.bind (i5 n 1 1000000) fun x1=>
 some x1
theorem n6 (n:Int) (r:Bool) (hm:j0 n=some r):d7 Tryz.prog 20 [DI n] (fun x=>x=DB r):=by
 refine zn Tryz.func20 rfl ?_
 refine cy hm (k9 n 1 1000000) fun x1 hm=> ?_
 exact hm.rr
def d8 (n:Int):Option Int:=
 some (n.tmod 6)
theorem j2 (n:Int) (r:Int) (hm:d8 n=some r):d7 Tryz.prog 26 [DI n] (fun x=>x=DI r):=by
 refine zn Tryz.func26 rfl ?_
 refine⟨by decide, ?_⟩
 exact hm.rr
def a2f (x:Int):Option Int:=
 Option.bind (some (IntKind.u64.wrap ((BitVec.ofInt IntKind.u64.bits (x.fdiv (2^(min (1:Int).toNat IntKind.u64.bits)))&&&BitVec.ofInt IntKind.u64.bits 6148914691236517205).toNat:Int))) fun y1=>
 Option.bind (some ((IntKind.u64.wrap (y1+(IntKind.u64.wrap ((BitVec.ofInt IntKind.u64.bits x&&&BitVec.ofInt IntKind.u64.bits 6148914691236517205).toNat:Int)))).fdiv (2^(min (2:Int).toNat IntKind.u64.bits)))) fun y2=>
 Option.bind (some (IntKind.u64.wrap ((BitVec.ofInt IntKind.u64.bits (IntKind.u64.wrap (y1+(IntKind.u64.wrap ((BitVec.ofInt IntKind.u64.bits x&&&BitVec.ofInt IntKind.u64.bits 6148914691236517205).toNat:Int))))&&&BitVec.ofInt IntKind.u64.bits 3689348814741910323).toNat:Int))) fun y3=>
 Option.bind (some ((IntKind.u64.wrap ((IntKind.u64.wrap ((BitVec.ofInt IntKind.u64.bits y2&&&BitVec.ofInt IntKind.u64.bits 3689348814741910323).toNat:Int))+y3)).fdiv (2^(min (4:Int).toNat IntKind.u64.bits)))) fun y4=>
 Option.bind (some (IntKind.u64.wrap (y4+(IntKind.u64.wrap ((IntKind.u64.wrap ((BitVec.ofInt IntKind.u64.bits y2&&&BitVec.ofInt IntKind.u64.bits 3689348814741910323).toNat:Int))+y3))))) fun y5=>
 Option.bind (some ((IntKind.u64.wrap ((BitVec.ofInt IntKind.u64.bits y5&&&BitVec.ofInt IntKind.u64.bits 1085102592571150095).toNat:Int)).fdiv (2^(min (8:Int).toNat IntKind.u64.bits)))) fun y6=>
 Option.bind (some ((IntKind.u64.wrap ((IntKind.u64.wrap ((BitVec.ofInt IntKind.u64.bits y5&&&BitVec.ofInt IntKind.u64.bits 1085102592571150095).toNat:Int))+y6)).fdiv (2^(min (16:Int).toNat IntKind.u64.bits)))) fun y7=>
 Option.bind (some (IntKind.u64.wrap ((IntKind.u64.wrap ((IntKind.u64.wrap ((BitVec.ofInt IntKind.u64.bits y5&&&BitVec.ofInt IntKind.u64.bits 1085102592571150095).toNat:Int))+y6))+y7))) fun y8=>
 Option.bind (some (W ((BitVec.ofInt IntKind.i64.bits (W (IntKind.u64.wrap (y8+(y8.fdiv (2^(min (32:Int).toNat IntKind.u64.bits))))))&&&BitVec.ofInt IntKind.i64.bits 127).toNat:Int))) fun y9=>
 some y9
theorem a6c (x:Int) (r:Int) (hm:a2f x=some r):d7 Tryz.prog 175 [.v (.int .u64 x)] (fun x=>x=DI r):=by
 refine zn Tryz.func175 rfl ?_
 refine⟨by decide, ?_⟩
 obtain⟨y1,hy,hm⟩:=b9 hm
 cases hy
 refine⟨by decide, ?_⟩
 obtain⟨y2,hy,hm⟩:=b9 hm
 cases hy
 obtain⟨y3,hy,hm⟩:=b9 hm
 cases hy
 refine⟨by decide, ?_⟩
 obtain⟨y4,hy,hm⟩:=b9 hm
 cases hy
 obtain⟨y5,hy,hm⟩:=b9 hm
 cases hy
 refine⟨by decide, ?_⟩
 obtain⟨y6,hy,hm⟩:=b9 hm
 cases hy
 refine⟨by decide, ?_⟩
 obtain⟨y7,hy,hm⟩:=b9 hm
 cases hy
 obtain⟨y8,hy,hm⟩:=b9 hm
 cases hy
 refine⟨by decide, ?_⟩
 obtain⟨y9,hy,hm⟩:=b9 hm
 cases hy
 exact hm.rr
def a2X (x:Int):Option Int:=
 Option.bind (a2f x) fun x1=>
 some x1
theorem a7m (x:Int) (r:Int) (hm:a2X x=some r):d7 Tryz.prog 142 [.v (.int .u64 x)] (fun x=>x=DI r):=by
 refine zn Tryz.func142 rfl ?_
 refine cy hm (a6c x) fun x1 hm=> ?_
 exact hm.rr
def O6 (m:Int):Option Bool:=
 Option.bind (a2X (IntKind.u64.wrap m)) fun x1=>
 some (decide (x1≥4))
theorem a3E (m:Int) (r:Bool) (hm:O6 m=some r):d7 Tryz.prog 100 [DI m] (fun x=>x=DB r):=by
 refine zn Tryz.func100 rfl ?_
 refine cy hm (a7m (IntKind.u64.wrap m)) fun x1 hm=> ?_
 exact hm.rr
def X9 (m:Int):Option Bool:=
 Option.bind (i5 m 0 63) fun x1=>
 some x1
theorem a3S (m:Int) (r:Bool) (hm:X9 m=some r):d7 Tryz.prog 105 [DI m] (fun x=>x=DB r):=by
 refine zn Tryz.func105 rfl ?_
 refine cy hm (k9 m 0 63) fun x1 hm=> ?_
 exact hm.rr
def A5 (n:Int):Option Bool:=
 Option.bind (i5 n 6 59999) fun x1=>
 some x1
theorem H4 (n:Int) (r:Bool) (hm:A5 n=some r):d7 Tryz.prog 59 [DI n] (fun x=>x=DB r):=by
 refine zn Tryz.func59 rfl ?_
 refine cy hm (k9 n 6 59999) fun x1 hm=> ?_
 exact hm.rr
def a1R (h:a7):Option Bool:=
 Option.bind (A5 h.Ballot) fun x1=>
 if x1=true then
  Option.bind (u6 h.Night) fun x4=>
  if x4=true then
   Option.bind (j0 h.Value) fun x7=>
   if x7=true then
    if(h.Mask !=0)=true then
     Option.bind (X9 h.Mask) fun x11=>
     some x11
    else
     some false
   else
    some false
  else
   some false
 else
  some false
theorem a9v (h:a7) (r:Bool) (hm:a1R h=some r):d7 Tryz.prog 106 [.agg (a7.c h)] (fun x=>x=DB r):=by
 refine zn Tryz.func106 rfl ?_
 refine cy hm (H4 h.Ballot) fun x1 hm=> ?_
 apply vb hm<;>intro _ hm
 refine cy hm (A3 h.Night) fun x4 hm=> ?_
 apply vb hm<;>intro _ hm
 refine cy hm (n6 h.Value) fun x7 hm=> ?_
 apply vb hm<;>intro _ hm
 apply vb hm<;>intro _ hm
 refine cy hm (a3S h.Mask) fun x11 hm=> ?_
 exact hm.rr
 exact hm.rr
 exact hm.rr
 exact hm.rr
 exact hm.rr
def A1 (n:Int):Option Bool:=
 Option.bind (i5 n 1 99) fun x1=>
 some x1
theorem J3 (n:Int) (r:Bool) (hm:A1 n=some r):d7 Tryz.prog 23 [DI n] (fun x=>x=DB r):=by
 refine zn Tryz.func23 rfl ?_
 refine cy hm (k9 n 1 99) fun x1 hm=> ?_
 exact hm.rr
def d9 (n:Int):Option Bool:=
 Option.bind (i5 n 0 144001439) fun x1=>
 some x1
theorem l8 (n:Int) (r:Bool) (hm:d9 n=some r):d7 Tryz.prog 25 [DI n] (fun x=>x=DB r):=by
 refine zn Tryz.func25 rfl ?_
 refine cy hm (k9 n 0 144001439) fun x1 hm=> ?_
 exact hm.rr
def U3 (from_:Int) (until_:Int):Option Bool:=
 Option.bind (d9 from_) fun x1=>
 if x1=true then
  Option.bind (d9 until_) fun x4=>
  if x4=true then
   some (decide (from_≤until_))
  else
   some false
 else
  some false
theorem a1K (from_:Int) (until_:Int) (r:Bool) (hm:U3 from_ until_=some r):d7 Tryz.prog 60 [DI from_,DI until_] (fun x=>x=DB r):=by
 refine zn Tryz.func60 rfl ?_
 refine cy hm (l8 from_) fun x1 hm=> ?_
 apply vb hm<;>intro _ hm
 refine cy hm (l8 until_) fun x4 hm=> ?_
 apply vb hm<;>intro _ hm
 exact hm.rr
 exact hm.rr
 exact hm.rr
def a1C (s:a8):Option Bool:=
 if(s.Ballot==0)=true then
  if(s.Value==0)=true then
   Option.bind (u6 s.Night) fun x3=>
   if x3=true then
    Option.bind (A5 s.Promised) fun x6=>
    if x6=true then
     some true
    else
     some false
   else
    some false
  else
   Option.bind (i5 s.Ballot 6 s.Promised) fun x9=>
   if x9=true then
    Option.bind (j0 s.Value) fun x12=>
    Option.bind (u6 s.Night) fun x14=>
    if x14=true then
     Option.bind (A5 s.Promised) fun x17=>
     if x17=true then
      some x12
     else
      some false
    else
     some false
   else
    Option.bind (u6 s.Night) fun x20=>
    if x20=true then
     Option.bind (A5 s.Promised) fun x23=>
     if x23=true then
      some false
     else
      some false
    else
     some false
 else
  Option.bind (i5 s.Ballot 6 s.Promised) fun x26=>
  if x26=true then
   Option.bind (j0 s.Value) fun x29=>
   Option.bind (u6 s.Night) fun x31=>
   if x31=true then
    Option.bind (A5 s.Promised) fun x34=>
    if x34=true then
     some x29
    else
     some false
   else
    some false
  else
   Option.bind (u6 s.Night) fun x37=>
   if x37=true then
    Option.bind (A5 s.Promised) fun x40=>
    if x40=true then
     some false
    else
     some false
   else
    some false
theorem b1R (s:a8) (r:Bool) (hm:a1C s=some r):d7 Tryz.prog 110 [.agg (a8.c s)] (fun x=>x=DB r):=by
 refine zn Tryz.func110 rfl ?_
 apply vb hm<;>intro _ hm
 apply vb hm<;>intro _ hm
 refine cy hm (A3 s.Night) fun x3 hm=> ?_
 apply vb hm<;>intro _ hm
 refine cy hm (H4 s.Promised) fun x6 hm=> ?_
 apply vb hm<;>intro _ hm
 exact hm.rr
 exact hm.rr
 exact hm.rr
 refine cy hm (k9 s.Ballot 6 s.Promised) fun x9 hm=> ?_
 apply vb hm<;>intro _ hm
 refine cy hm (n6 s.Value) fun x12 hm=> ?_
 refine cy hm (A3 s.Night) fun x14 hm=> ?_
 apply vb hm<;>intro _ hm
 refine cy hm (H4 s.Promised) fun x17 hm=> ?_
 apply vb hm<;>intro _ hm
 exact hm.rr
 exact hm.rr
 exact hm.rr
 refine cy hm (A3 s.Night) fun x20 hm=> ?_
 apply vb hm<;>intro _ hm
 refine cy hm (H4 s.Promised) fun x23 hm=> ?_
 apply vb hm<;>intro _ hm
 exact hm.rr
 exact hm.rr
 exact hm.rr
 refine cy hm (k9 s.Ballot 6 s.Promised) fun x26 hm=> ?_
 apply vb hm<;>intro _ hm
 refine cy hm (n6 s.Value) fun x29 hm=> ?_
 refine cy hm (A3 s.Night) fun x31 hm=> ?_
 apply vb hm<;>intro _ hm
 refine cy hm (H4 s.Promised) fun x34 hm=> ?_
 apply vb hm<;>intro _ hm
 exact hm.rr
 exact hm.rr
 exact hm.rr
 refine cy hm (A3 s.Night) fun x37 hm=> ?_
 apply vb hm<;>intro _ hm
 refine cy hm (H4 s.Promised) fun x40 hm=> ?_
 apply vb hm<;>intro _ hm
 exact hm.rr
 exact hm.rr
 exact hm.rr
def G5 (a:a8) (b_:a8):Option Int:=
 Option.bind (H5 a.Night b_.Night) fun x1=>
 some x1
theorem a0E (a:a8) (b_:a8) (r:Int) (hm:G5 a b_=some r):d7 Tryz.prog 116 [.agg (a8.c a), .agg (a8.c b_)] (fun x=>x=DI r):=by
 refine zn Tryz.func116 rfl ?_
 refine cy hm (P5 a.Night b_.Night) fun x1 hm=> ?_
 exact hm.rr
def a1s (a:b8) (b_:b8):Option Bool:=
 some (decide ((if b_.From>a.From then b_.From else a.From)<(if b_.Until<a.Until then b_.Until else a.Until)))
theorem a8D (a:b8) (b_:b8) (r:Bool) (hm:a1s a b_=some r):d7 Tryz.prog 55 [.agg (b8.c a), .agg (b8.c b_)] (fun x=>x=DB r):=by
 refine zn Tryz.func55 rfl ?_
 exact hm.rr
def I3 (x:a8):Option Bool:=
 Option.bind (a1C x) fun x1=>
 some (!x1)
theorem a0H (x:a8) (r:Bool) (hm:I3 x=some r):d7 Tryz.prog 147 [.agg (a8.c x), .ptr [.fn 110 [] []] 0] (fun x=>x=DB r):=by
 refine zn Tryz.func147 rfl ?_
 refine cy hm (b1R x) fun x1 hm=> ?_
 exact hm.rr
def r7 (s:(List a8)):Int→Option (Sum Int (Sum Int Int)):=fun v7=>
 if(decide (v7<(s.length:Int)))=true then
  Option.bind (idx s v7) fun e15=>
  Option.bind (I3 e15) fun x17=>
  if x17=true then
   some (.inr (.inr v7))
  else
   some (.inl (W (v7+1)))
 else
  some (.inr (.inl v7))
def s9 (s:(List a8)):Option Int:=
 Option.bind (j4 (r7 s) 0) fun e=>
 match e with
 | .inl v20=>
  some (-1)
 | .inr rr21=>
  some rr21
theorem H9 (s:(List a8)) (r:Int) (hm:s9 s=some r):d7 Tryz.prog 181 [lD 4 s a8.c, .fn 147 [] [.ptr [.fn 110 [] []] 0]] (fun x=>x=DI r):=by
 refine zn Tryz.func181 rfl ?_
 obtain⟨ev22,he,hk23⟩:=b9 hm
 refine c9k (r7 s) (fun v7=>⟨[(0,lD 4 s a8.c),(1, .fn 147 [] [.ptr [.fn 110 [] []] 0]),(7,DI (s.length:Int)),(8,DI v7)], [],0⟩) 0 (sb 0) he ?_
 rintro fu24 v7 b hm hi25
 apply vb hm<;>intro _ hm
 refine ei hm fun e27 hm=> ?_
 refine cy hm (a0H e27) fun x29 hm=> ?_
 apply vb hm<;>intro _ hm
 cases hm
 cases hi25
 have hm:=hk23
 exact hm.rr
 cases hm
 exact⟨(_,(W (v7+1))),sb 0,hi25,Nat.lt_succ_self _⟩
 cases hm
 cases hi25
 have hm:=hk23
 exact hm.rr
def r6 (s:(List a8)):Option Bool:=
 Option.bind (s9 s) fun x1=>
 some (decide (x1≥0))
theorem F8 (s:(List a8)) (r:Bool) (hm:r6 s=some r):d7 Tryz.prog 146 [lD 4 s a8.c, .fn 147 [] [.ptr [.fn 110 [] []] 0]] (fun x=>x=DB r):=by
 refine zn Tryz.func146 rfl ?_
 refine cy hm (H9 s) fun x1 hm=> ?_
 exact hm.rr
def J5 (l:(List a8)) (most:Int):Option Bool:=
 if(decide ((l.length:Int)≤most))=true then
  Option.bind (r6 l) fun x2=>
  some (!x2)
 else
  some false
theorem a1c (l:(List a8)) (most:Int) (r:Bool) (hm:J5 l most=some r):d7 Tryz.prog 109 [lD 4 l a8.c,DI most, .fn 110 [] []] (fun x=>x=DB r):=by
 refine zn Tryz.func109 rfl ?_
 apply vb hm<;>intro _ hm
 refine co hm (F8 l) fun x2 hm=> ?_
 exact hm.rr
 exact hm.rr
def a0c (b_:c0) (c_0:b7) (c_1:Int):Option Bool:=
 Option.bind (u6 b_.Night) fun x1=>
 if x1=true then
  Option.bind (i5 b_.Ballot 6 (W ((W (6*c_0.Round))+c_1))) fun x4=>
  if x4=true then
   Option.bind (d8 b_.Ballot) fun x7=>
   if(x7==c_1)=true then
    Option.bind (j0 b_.Value) fun x10=>
    if x10=true then
     Option.bind (i5 b_.Best 0 (W (b_.Ballot-1))) fun x13=>
     if x13=true then
      Option.bind (X9 b_.Mask) fun x16=>
      if x16=true then
       Option.bind (O6 b_.Mask) fun x19=>
       some (b_.Asked==x19)
      else
       some false
     else
      some false
    else
     some false
   else
    some false
  else
   some false
 else
  some false
theorem a8R (b_:c0) (c_0:b7) (c_1:Int) (r:Bool) (hm:a0c b_ c_0 c_1=some r):d7 Tryz.prog 104 [.agg (c0.c b_), .ptr (b7.c c_0) 0, .ptr [DI c_1] 0] (fun x=>x=DB r):=by
 refine zy c6O [] [] [] Tryz.func104 rfl ?_
 refine⟨rfl, ?_⟩
 refine cy hm (A3 b_.Night) fun x1 hm=> ?_
 apply vb hm<;>intro _ hm
 refine cy hm (k9 b_.Ballot 6 (W ((W (6*c_0.Round))+c_1))) fun x4 hm=> ?_
 apply vb hm<;>intro _ hm
 refine cy hm (j2 b_.Ballot) fun x7 hm=> ?_
 apply vb hm<;>intro _ hm
 refine cy hm (n6 b_.Value) fun x10 hm=> ?_
 apply vb hm<;>intro _ hm
 refine cy hm (k9 b_.Best 0 (W (b_.Ballot-1))) fun x13 hm=> ?_
 apply vb hm<;>intro _ hm
 refine cy hm (a3S b_.Mask) fun x16 hm=> ?_
 apply vb hm<;>intro _ hm
 refine cy hm (a3E b_.Mask) fun x19 hm=> ?_
 exact hm.rr
 exact hm.rr
 exact hm.rr
 exact hm.rr
 exact hm.rr
 exact hm.rr
 exact hm.rr
def F6 (x:c0) (c_0:b7) (c_1:Int):Option Bool:=
 Option.bind (a0c x c_0 c_1) fun x1=>
 some (!x1)
theorem a0r (x:c0) (c_0:b7) (c_1:Int) (r:Bool) (hm:F6 x c_0 c_1=some r):d7 Tryz.prog 148 [.agg (c0.c x), .ptr [.fn 104 [] [.ptr (b7.c c_0) 0, .ptr [DI c_1] 0]] 0] (fun x=>x=DB r):=by
 refine zn Tryz.func148 rfl ?_
 refine cy hm (a8R x c_0 c_1) fun x1 hm=> ?_
 exact hm.rr
def q9 (s:(List c0)) (c1_0:b7) (c1_1:Int):Int→Option (Sum Int (Sum Int Int)):=fun v7=>
 if(decide (v7<(s.length:Int)))=true then
  Option.bind (idx s v7) fun e15=>
  Option.bind (F6 e15 c1_0 c1_1) fun x17=>
  if x17=true then
   some (.inr (.inr v7))
  else
   some (.inl (W (v7+1)))
 else
  some (.inr (.inl v7))
def t6 (s:(List c0)) (c1_0:b7) (c1_1:Int):Option Int:=
 Option.bind (j4 (q9 s c1_0 c1_1) 0) fun e=>
 match e with
 | .inl v20=>
  some (-1)
 | .inr rr21=>
  some rr21
theorem H8 (s:(List c0)) (c1_0:b7) (c1_1:Int) (r:Int) (hm:t6 s c1_0 c1_1=some r):d7 Tryz.prog 96 [lD 6 s c0.c, .fn 148 [] [.ptr [.fn 104 [] [.ptr (b7.c c1_0) 0, .ptr [DI c1_1] 0]] 0]] (fun x=>x=DI r):=by
 refine zn Tryz.func96 rfl ?_
 obtain⟨ev22,he,hk23⟩:=b9 hm
 refine c9k (q9 s c1_0 c1_1) (fun v7=>⟨[(0,lD 6 s c0.c),(1, .fn 148 [] [.ptr [.fn 104 [] [.ptr (b7.c c1_0) 0, .ptr [DI c1_1] 0]] 0]),(7,DI (s.length:Int)),(8,DI v7)], [],0⟩) 0 (sb 0) he ?_
 rintro fu24 v7 b hm hi25
 apply vb hm<;>intro _ hm
 refine ei hm fun e27 hm=> ?_
 refine cy hm (a0r e27 c1_0 c1_1) fun x29 hm=> ?_
 apply vb hm<;>intro _ hm
 cases hm
 cases hi25
 have hm:=hk23
 exact hm.rr
 cases hm
 exact⟨(_,(W (v7+1))),sb 0,hi25,Nat.lt_succ_self _⟩
 cases hm
 cases hi25
 have hm:=hk23
 exact hm.rr
def s6 (s:(List c0)) (c1_0:b7) (c1_1:Int):Option Bool:=
 Option.bind (t6 s c1_0 c1_1) fun x1=>
 some (decide (x1≥0))
theorem F4 (s:(List c0)) (c1_0:b7) (c1_1:Int) (r:Bool) (hm:s6 s c1_0 c1_1=some r):d7 Tryz.prog 120 [lD 6 s c0.c, .fn 148 [] [.ptr [.fn 104 [] [.ptr (b7.c c1_0) 0, .ptr [DI c1_1] 0]] 0]] (fun x=>x=DB r):=by
 refine zn Tryz.func120 rfl ?_
 refine cy hm (H8 s c1_0 c1_1) fun x1 hm=> ?_
 exact hm.rr
def I2 (l:(List c0)) (most:Int) (c2_0:b7) (c2_1:Int):Option Bool:=
 if(decide ((l.length:Int)≤most))=true then
  Option.bind (s6 l c2_0 c2_1) fun x2=>
  some (!x2)
 else
  some false
theorem a0I (l:(List c0)) (most:Int) (c2_0:b7) (c2_1:Int) (r:Bool) (hm:I2 l most c2_0 c2_1=some r):d7 Tryz.prog 111 [lD 6 l c0.c,DI most, .fn 104 [] [.ptr (b7.c c2_0) 0, .ptr [DI c2_1] 0]] (fun x=>x=DB r):=by
 refine zn Tryz.func111 rfl ?_
 apply vb hm<;>intro _ hm
 refine co hm (F4 l c2_0 c2_1) fun x2 hm=> ?_
 exact hm.rr
 exact hm.rr
def D5 (x:a7):Option Bool:=
 Option.bind (a1R x) fun x1=>
 some (!x1)
theorem Z9 (x:a7) (r:Bool) (hm:D5 x=some r):d7 Tryz.prog 150 [.agg (a7.c x), .ptr [.fn 106 [] []] 0] (fun x=>x=DB r):=by
 refine zn Tryz.func150 rfl ?_
 refine cy hm (a9v x) fun x1 hm=> ?_
 exact hm.rr
def o4 (s:(List a7)):Int→Option (Sum Int (Sum Int Int)):=fun v7=>
 if(decide (v7<(s.length:Int)))=true then
  Option.bind (idx s v7) fun e15=>
  Option.bind (D5 e15) fun x17=>
  if x17=true then
   some (.inr (.inr v7))
  else
   some (.inl (W (v7+1)))
 else
  some (.inr (.inl v7))
def o9 (s:(List a7)):Option Int:=
 Option.bind (j4 (o4 s) 0) fun e=>
 match e with
 | .inl v20=>
  some (-1)
 | .inr rr21=>
  some rr21
theorem E0 (s:(List a7)) (r:Int) (hm:o9 s=some r):d7 Tryz.prog 182 [lD 4 s a7.c, .fn 150 [] [.ptr [.fn 106 [] []] 0]] (fun x=>x=DI r):=by
 refine zn Tryz.func182 rfl ?_
 obtain⟨ev22,he,hk23⟩:=b9 hm
 refine c9k (o4 s) (fun v7=>⟨[(0,lD 4 s a7.c),(1, .fn 150 [] [.ptr [.fn 106 [] []] 0]),(7,DI (s.length:Int)),(8,DI v7)], [],0⟩) 0 (sb 0) he ?_
 rintro fu24 v7 b hm hi25
 apply vb hm<;>intro _ hm
 refine ei hm fun e27 hm=> ?_
 refine cy hm (Z9 e27) fun x29 hm=> ?_
 apply vb hm<;>intro _ hm
 cases hm
 cases hi25
 have hm:=hk23
 exact hm.rr
 cases hm
 exact⟨(_,(W (v7+1))),sb 0,hi25,Nat.lt_succ_self _⟩
 cases hm
 cases hi25
 have hm:=hk23
 exact hm.rr
def n8 (s:(List a7)):Option Bool:=
 Option.bind (o9 s) fun x1=>
 some (decide (x1≥0))
theorem C8 (s:(List a7)) (r:Bool) (hm:n8 s=some r):d7 Tryz.prog 149 [lD 4 s a7.c, .fn 150 [] [.ptr [.fn 106 [] []] 0]] (fun x=>x=DB r):=by
 refine zn Tryz.func149 rfl ?_
 refine cy hm (E0 s) fun x1 hm=> ?_
 exact hm.rr
def F5 (l:(List a7)) (most:Int):Option Bool:=
 if(decide ((l.length:Int)≤most))=true then
  Option.bind (n8 l) fun x2=>
  some (!x2)
 else
  some false
theorem a0o (l:(List a7)) (most:Int) (r:Bool) (hm:F5 l most=some r):d7 Tryz.prog 112 [lD 4 l a7.c,DI most, .fn 106 [] []] (fun x=>x=DB r):=by
 refine zn Tryz.func112 rfl ?_
 apply vb hm<;>intro _ hm
 refine co hm (C8 l) fun x2 hm=> ?_
 exact hm.rr
 exact hm.rr
def a0g (l:b8) (c_0:Int):Option Bool:=
 Option.bind (A1 l.Thing) fun x1=>
 if x1=true then
  Option.bind (d8 l.Thing) fun x4=>
  if(x4==c_0)=true then
   Option.bind (u7 l.To) fun x7=>
   if x7=true then
    if(l.To !=c_0)=true then
     Option.bind (U3 l.From l.Until) fun x11=>
     some x11
    else
     some false
   else
    some false
  else
   some false
 else
  some false
theorem a9k (l:b8) (c_0:Int) (r:Bool) (hm:a0g l c_0=some r):d7 Tryz.prog 107 [.agg (b8.c l), .ptr [DI c_0] 0] (fun x=>x=DB r):=by
 refine zy c6T [] [] [] Tryz.func107 rfl ?_
 refine⟨rfl, ?_⟩
 refine cy hm (J3 l.Thing) fun x1 hm=> ?_
 apply vb hm<;>intro _ hm
 refine cy hm (j2 l.Thing) fun x4 hm=> ?_
 apply vb hm<;>intro _ hm
 refine cy hm (A2 l.To) fun x7 hm=> ?_
 apply vb hm<;>intro _ hm
 apply vb hm<;>intro _ hm
 refine cy hm (a1K l.From l.Until) fun x11 hm=> ?_
 exact hm.rr
 exact hm.rr
 exact hm.rr
 exact hm.rr
 exact hm.rr
def D6 (x:b8) (c_0:Int):Option Bool:=
 Option.bind (a0g x c_0) fun x1=>
 some (!x1)
theorem Z8 (x:b8) (c_0:Int) (r:Bool) (hm:D6 x c_0=some r):d7 Tryz.prog 151 [.agg (b8.c x), .ptr [.fn 107 [] [.ptr [DI c_0] 0]] 0] (fun x=>x=DB r):=by
 refine zn Tryz.func151 rfl ?_
 refine cy hm (a9k x c_0) fun x1 hm=> ?_
 exact hm.rr
def o0 (s:(List b8)) (c1_0:Int):Int→Option (Sum Int (Sum Int Int)):=fun v7=>
 if(decide (v7<(s.length:Int)))=true then
  Option.bind (idx s v7) fun e15=>
  Option.bind (D6 e15 c1_0) fun x17=>
  if x17=true then
   some (.inr (.inr v7))
  else
   some (.inl (W (v7+1)))
 else
  some (.inr (.inl v7))
def p0 (s:(List b8)) (c1_0:Int):Option Int:=
 Option.bind (j4 (o0 s c1_0) 0) fun e=>
 match e with
 | .inl v20=>
  some (-1)
 | .inr rr21=>
  some rr21
theorem D8 (s:(List b8)) (c1_0:Int) (r:Int) (hm:p0 s c1_0=some r):d7 Tryz.prog 94 [lD 5 s b8.c, .fn 151 [] [.ptr [.fn 107 [] [.ptr [DI c1_0] 0]] 0]] (fun x=>x=DI r):=by
 refine zn Tryz.func94 rfl ?_
 obtain⟨ev22,he,hk23⟩:=b9 hm
 refine c9k (o0 s c1_0) (fun v7=>⟨[(0,lD 5 s b8.c),(1, .fn 151 [] [.ptr [.fn 107 [] [.ptr [DI c1_0] 0]] 0]),(7,DI (s.length:Int)),(8,DI v7)], [],0⟩) 0 (sb 0) he ?_
 rintro fu24 v7 b hm hi25
 apply vb hm<;>intro _ hm
 refine ei hm fun e27 hm=> ?_
 refine cy hm (Z8 e27 c1_0) fun x29 hm=> ?_
 apply vb hm<;>intro _ hm
 cases hm
 cases hi25
 have hm:=hk23
 exact hm.rr
 cases hm
 exact⟨(_,(W (v7+1))),sb 0,hi25,Nat.lt_succ_self _⟩
 cases hm
 cases hi25
 have hm:=hk23
 exact hm.rr
def n7 (s:(List b8)) (c1_0:Int):Option Bool:=
 Option.bind (p0 s c1_0) fun x1=>
 some (decide (x1≥0))
theorem D1 (s:(List b8)) (c1_0:Int) (r:Bool) (hm:n7 s c1_0=some r):d7 Tryz.prog 53 [lD 5 s b8.c, .fn 151 [] [.ptr [.fn 107 [] [.ptr [DI c1_0] 0]] 0]] (fun x=>x=DB r):=by
 refine zn Tryz.func53 rfl ?_
 refine cy hm (D8 s c1_0) fun x1 hm=> ?_
 exact hm.rr
def F3 (l:(List b8)) (most:Int) (c2_0:Int):Option Bool:=
 if(decide ((l.length:Int)≤most))=true then
  Option.bind (n7 l c2_0) fun x2=>
  some (!x2)
 else
  some false
theorem a0v (l:(List b8)) (most:Int) (c2_0:Int) (r:Bool) (hm:F3 l most c2_0=some r):d7 Tryz.prog 113 [lD 5 l b8.c,DI most, .fn 107 [] [.ptr [DI c2_0] 0]] (fun x=>x=DB r):=by
 refine zn Tryz.func113 rfl ?_
 apply vb hm<;>intro _ hm
 refine co hm (D1 l c2_0) fun x2 hm=> ?_
 exact hm.rr
 exact hm.rr
def a0d (l:b6) (c_0:Int):Option Bool:=
 Option.bind (u7 l.Owner) fun x1=>
 if x1=true then
  if(l.Owner !=c_0)=true then
   Option.bind (i5 l.No 1 40) fun x5=>
   if x5=true then
    Option.bind (A1 l.Thing) fun x8=>
    if x8=true then
     Option.bind (d8 l.Thing) fun x11=>
     if(x11==l.Owner)=true then
      Option.bind (U3 l.From l.Until) fun x14=>
      some x14
     else
      some false
    else
     some false
   else
    some false
  else
   some false
 else
  some false
theorem a9m (l:b6) (c_0:Int) (r:Bool) (hm:a0d l c_0=some r):d7 Tryz.prog 108 [.agg (b6.c l), .ptr [DI c_0] 0] (fun x=>x=DB r):=by
 refine zy c6q [] [] [] Tryz.func108 rfl ?_
 refine⟨rfl, ?_⟩
 refine cy hm (A2 l.Owner) fun x1 hm=> ?_
 apply vb hm<;>intro _ hm
 apply vb hm<;>intro _ hm
 refine cy hm (k9 l.No 1 40) fun x5 hm=> ?_
 apply vb hm<;>intro _ hm
 refine cy hm (J3 l.Thing) fun x8 hm=> ?_
 apply vb hm<;>intro _ hm
 refine cy hm (j2 l.Thing) fun x11 hm=> ?_
 apply vb hm<;>intro _ hm
 refine cy hm (a1K l.From l.Until) fun x14 hm=> ?_
 exact hm.rr
 exact hm.rr
 exact hm.rr
 exact hm.rr
 exact hm.rr
 exact hm.rr
def E4 (x:b6) (c_0:Int):Option Bool:=
 Option.bind (a0d x c_0) fun x1=>
 some (!x1)
theorem a0f (x:b6) (c_0:Int) (r:Bool) (hm:E4 x c_0=some r):d7 Tryz.prog 152 [.agg (b6.c x), .ptr [.fn 108 [] [.ptr [DI c_0] 0]] 0] (fun x=>x=DB r):=by
 refine zn Tryz.func152 rfl ?_
 refine cy hm (a9m x c_0) fun x1 hm=> ?_
 exact hm.rr
def o8 (s:(List b6)) (c1_0:Int):Int→Option (Sum Int (Sum Int Int)):=fun v7=>
 if(decide (v7<(s.length:Int)))=true then
  Option.bind (idx s v7) fun e15=>
  Option.bind (E4 e15 c1_0) fun x17=>
  if x17=true then
   some (.inr (.inr v7))
  else
   some (.inl (W (v7+1)))
 else
  some (.inr (.inl v7))
def s5 (s:(List b6)) (c1_0:Int):Option Int:=
 Option.bind (j4 (o8 s c1_0) 0) fun e=>
 match e with
 | .inl v20=>
  some (-1)
 | .inr rr21=>
  some rr21
theorem F2 (s:(List b6)) (c1_0:Int) (r:Int) (hm:s5 s c1_0=some r):d7 Tryz.prog 153 [lD 6 s b6.c, .fn 152 [] [.ptr [.fn 108 [] [.ptr [DI c1_0] 0]] 0]] (fun x=>x=DI r):=by
 refine zn Tryz.func153 rfl ?_
 obtain⟨ev22,he,hk23⟩:=b9 hm
 refine c9k (o8 s c1_0) (fun v7=>⟨[(0,lD 6 s b6.c),(1, .fn 152 [] [.ptr [.fn 108 [] [.ptr [DI c1_0] 0]] 0]),(7,DI (s.length:Int)),(8,DI v7)], [],0⟩) 0 (sb 0) he ?_
 rintro fu24 v7 b hm hi25
 apply vb hm<;>intro _ hm
 refine ei hm fun e27 hm=> ?_
 refine cy hm (a0f e27 c1_0) fun x29 hm=> ?_
 apply vb hm<;>intro _ hm
 cases hm
 cases hi25
 have hm:=hk23
 exact hm.rr
 cases hm
 exact⟨(_,(W (v7+1))),sb 0,hi25,Nat.lt_succ_self _⟩
 cases hm
 cases hi25
 have hm:=hk23
 exact hm.rr
def q0 (s:(List b6)) (c1_0:Int):Option Bool:=
 Option.bind (s5 s c1_0) fun x1=>
 some (decide (x1≥0))
theorem D9 (s:(List b6)) (c1_0:Int) (r:Bool) (hm:q0 s c1_0=some r):d7 Tryz.prog 126 [lD 6 s b6.c, .fn 152 [] [.ptr [.fn 108 [] [.ptr [DI c1_0] 0]] 0]] (fun x=>x=DB r):=by
 refine zn Tryz.func126 rfl ?_
 refine cy hm (F2 s c1_0) fun x1 hm=> ?_
 exact hm.rr
def G6 (l:(List b6)) (most:Int) (c2_0:Int):Option Bool:=
 if(decide ((l.length:Int)≤most))=true then
  Option.bind (q0 l c2_0) fun x2=>
  some (!x2)
 else
  some false
theorem a0B (l:(List b6)) (most:Int) (c2_0:Int) (r:Bool) (hm:G6 l most c2_0=some r):d7 Tryz.prog 114 [lD 6 l b6.c,DI most, .fn 108 [] [.ptr [DI c2_0] 0]] (fun x=>x=DB r):=by
 refine zn Tryz.func114 rfl ?_
 apply vb hm<;>intro _ hm
 refine co hm (D9 l c2_0) fun x2 hm=> ?_
 exact hm.rr
 exact hm.rr
def K0 (l:(List a8)):Int→Option (Sum Int (Sum Int Bool)):=fun i9=>
 if(decide (i9<(l.length:Int)))=true then
  Option.bind (idx l (W (i9-1))) fun e19=>
  Option.bind (idx l i9) fun e21=>
  Option.bind (G5 e19 e21) fun x23=>
  if(decide (x23≥0))=true then
   some (.inr (.inr false))
  else
   some (.inl (W (i9+1)))
 else
  some (.inr (.inl i9))
def C6 (l:(List a8)):Option Bool:=
 Option.bind (j4 (K0 l) 1) fun e=>
 match e with
 | .inl i26=>
  some true
 | .inr rr27=>
  some rr27
theorem Y5 (l:(List a8)) (r:Bool) (hm:C6 l=some r):d7 Tryz.prog 115 [lD 4 l a8.c, .fn 116 [] []] (fun x=>x=DB r):=by
 refine zy c6N [] [] [] Tryz.func115 rfl ?_
 obtain⟨ev28,he,hk29⟩:=b9 hm
 refine c9k (K0 l) (fun i9=>⟨[(0,lD 4 l a8.c),(1, .fn 116 [] []),(5,DI i9)], [],0⟩) 1 (sb 0) he ?_
 rintro fu30 i9 b hm hi31
 apply vb hm<;>intro _ hm
 refine⟨rfl, ?_⟩
 refine ei hm fun e33 hm=> ?_
 refine ei hm fun e35 hm=> ?_
 refine cy hm (a0E e33 e35) fun x37 hm=> ?_
 apply vb hm<;>intro _ hm
 cases hm
 cases hi31
 have hm:=hk29
 exact hm.rr
 cases hm
 exact⟨(_,(W (i9+1))),sb 0,hi31,Nat.lt_succ_self _⟩
 cases hm
 cases hi31
 have hm:=hk29
 exact hm.rr
def K8 (l:(List c0)):Int→Option (Sum Int (Sum Int Bool)):=fun i9=>
 if(decide (i9<(l.length:Int)))=true then
  Option.bind (idx l (W (i9-1))) fun e19=>
  Option.bind (idx l i9) fun e21=>
  Option.bind (I6 e19 e21) fun x23=>
  if(decide (x23≥0))=true then
   some (.inr (.inr false))
  else
   some (.inl (W (i9+1)))
 else
  some (.inr (.inl i9))
def E6 (l:(List c0)):Option Bool:=
 Option.bind (j4 (K8 l) 1) fun e=>
 match e with
 | .inl i26=>
  some true
 | .inr rr27=>
  some rr27
theorem a0l (l:(List c0)) (r:Bool) (hm:E6 l=some r):d7 Tryz.prog 117 [lD 6 l c0.c, .fn 22 [] []] (fun x=>x=DB r):=by
 refine zy c6w [] [] [] Tryz.func117 rfl ?_
 obtain⟨ev28,he,hk29⟩:=b9 hm
 refine c9k (K8 l) (fun i9=>⟨[(0,lD 6 l c0.c),(1, .fn 22 [] []),(5,DI i9)], [],0⟩) 1 (sb 0) he ?_
 rintro fu30 i9 b hm hi31
 apply vb hm<;>intro _ hm
 refine⟨rfl, ?_⟩
 refine ei hm fun e33 hm=> ?_
 refine ei hm fun e35 hm=> ?_
 refine cy hm (a0N e33 e35) fun x37 hm=> ?_
 apply vb hm<;>intro _ hm
 cases hm
 cases hi31
 have hm:=hk29
 exact hm.rr
 cases hm
 exact⟨(_,(W (i9+1))),sb 0,hi31,Nat.lt_succ_self _⟩
 cases hm
 cases hi31
 have hm:=hk29
 exact hm.rr
def J7 (l:(List a7)):Int→Option (Sum Int (Sum Int Bool)):=fun i9=>
 if(decide (i9<(l.length:Int)))=true then
  Option.bind (idx l (W (i9-1))) fun e19=>
  Option.bind (idx l i9) fun e21=>
  Option.bind (G8 e19 e21) fun x23=>
  if(decide (x23≥0))=true then
   some (.inr (.inr false))
  else
   some (.inl (W (i9+1)))
 else
  some (.inr (.inl i9))
def B7 (l:(List a7)):Option Bool:=
 Option.bind (j4 (J7 l) 1) fun e=>
 match e with
 | .inl i26=>
  some true
 | .inr rr27=>
  some rr27
theorem X6 (l:(List a7)) (r:Bool) (hm:B7 l=some r):d7 Tryz.prog 118 [lD 4 l a7.c, .fn 102 [] []] (fun x=>x=DB r):=by
 refine zy c6S [] [] [] Tryz.func118 rfl ?_
 obtain⟨ev28,he,hk29⟩:=b9 hm
 refine c9k (J7 l) (fun i9=>⟨[(0,lD 4 l a7.c),(1, .fn 102 [] []),(5,DI i9)], [],0⟩) 1 (sb 0) he ?_
 rintro fu30 i9 b hm hi31
 apply vb hm<;>intro _ hm
 refine⟨rfl, ?_⟩
 refine ei hm fun e33 hm=> ?_
 refine ei hm fun e35 hm=> ?_
 refine cy hm (a0z e33 e35) fun x37 hm=> ?_
 apply vb hm<;>intro _ hm
 cases hm
 cases hi31
 have hm:=hk29
 exact hm.rr
 cases hm
 exact⟨(_,(W (i9+1))),sb 0,hi31,Nat.lt_succ_self _⟩
 cases hm
 cases hi31
 have hm:=hk29
 exact hm.rr
def J9 (l:(List b6)):Int→Option (Sum Int (Sum Int Bool)):=fun i9=>
 if(decide (i9<(l.length:Int)))=true then
  Option.bind (idx l (W (i9-1))) fun e19=>
  Option.bind (idx l i9) fun e21=>
  Option.bind (G7 e19 e21) fun x23=>
  if(decide (x23≥0))=true then
   some (.inr (.inr false))
  else
   some (.inl (W (i9+1)))
 else
  some (.inr (.inl i9))
def D0 (l:(List b6)):Option Bool:=
 Option.bind (j4 (J9 l) 1) fun e=>
 match e with
 | .inl i26=>
  some true
 | .inr rr27=>
  some rr27
theorem Z2 (l:(List b6)) (r:Bool) (hm:D0 l=some r):d7 Tryz.prog 119 [lD 6 l b6.c, .fn 29 [] []] (fun x=>x=DB r):=by
 refine zy c7v [] [] [] Tryz.func119 rfl ?_
 obtain⟨ev28,he,hk29⟩:=b9 hm
 refine c9k (J9 l) (fun i9=>⟨[(0,lD 6 l b6.c),(1, .fn 29 [] []),(5,DI i9)], [],0⟩) 1 (sb 0) he ?_
 rintro fu30 i9 b hm hi31
 apply vb hm<;>intro _ hm
 refine⟨rfl, ?_⟩
 refine ei hm fun e33 hm=> ?_
 refine ei hm fun e35 hm=> ?_
 refine cy hm (a0A e33 e35) fun x37 hm=> ?_
 apply vb hm<;>intro _ hm
 cases hm
 cases hi31
 have hm:=hk29
 exact hm.rr
 cases hm
 exact⟨(_,(W (i9+1))),sb 0,hi31,Nat.lt_succ_self _⟩
 cases hm
 cases hi31
 have hm:=hk29
 exact hm.rr
def a1Y (c:c0) (c_0:c0):Option Bool:=
 some (c.Ballot==c_0.Ballot)
theorem a9w (c:c0) (c_0:c0) (r:Bool) (hm:a1Y c c_0=some r):d7 Tryz.prog 121 [.agg (c0.c c), .ptr (c0.c c_0) 0] (fun x=>x=DB r):=by
 refine zn Tryz.func121 rfl ?_
 exact hm.rr
def E9 (s:(List c0)) (c1_0:c0):Int→Option (Sum Int (Sum Int Int)):=fun v7=>
 if(decide (v7<(s.length:Int)))=true then
  Option.bind (idx s v7) fun e15=>
  Option.bind (a1Y e15 c1_0) fun x17=>
  if x17=true then
   some (.inr (.inr v7))
  else
   some (.inl (W (v7+1)))
 else
  some (.inr (.inl v7))
def I0 (s:(List c0)) (c1_0:c0):Option Int:=
 Option.bind (j4 (E9 s c1_0) 0) fun e=>
 match e with
 | .inl v20=>
  some (-1)
 | .inr rr21=>
  some rr21
theorem Q7 (s:(List c0)) (c1_0:c0) (r:Int) (hm:I0 s c1_0=some r):d7 Tryz.prog 96 [lD 6 s c0.c, .fn 121 [] [.ptr (c0.c c1_0) 0]] (fun x=>x=DI r):=by
 refine zn Tryz.func96 rfl ?_
 obtain⟨ev22,he,hk23⟩:=b9 hm
 refine c9k (E9 s c1_0) (fun v7=>⟨[(0,lD 6 s c0.c),(1, .fn 121 [] [.ptr (c0.c c1_0) 0]),(7,DI (s.length:Int)),(8,DI v7)], [],0⟩) 0 (sb 0) he ?_
 rintro fu24 v7 b hm hi25
 apply vb hm<;>intro _ hm
 refine ei hm fun e27 hm=> ?_
 refine cy hm (a9w e27 c1_0) fun x29 hm=> ?_
 apply vb hm<;>intro _ hm
 cases hm
 cases hi25
 have hm:=hk23
 exact hm.rr
 cases hm
 exact⟨(_,(W (v7+1))),sb 0,hi25,Nat.lt_succ_self _⟩
 cases hm
 cases hi25
 have hm:=hk23
 exact hm.rr
def F1 (s:(List c0)) (c1_0:c0):Option Bool:=
 Option.bind (I0 s c1_0) fun x1=>
 some (decide (x1≥0))
theorem P3 (s:(List c0)) (c1_0:c0) (r:Bool) (hm:F1 s c1_0=some r):d7 Tryz.prog 120 [lD 6 s c0.c, .fn 121 [] [.ptr (c0.c c1_0) 0]] (fun x=>x=DB r):=by
 refine zn Tryz.func120 rfl ?_
 refine cy hm (Q7 s c1_0) fun x1 hm=> ?_
 exact hm.rr
def a1O (o:b8) (c_0:b8):Option Bool:=
 if(o.Thing==c_0.Thing)=true then
  Option.bind (a1s o c_0) fun x2=>
  some x2
 else
  some false
theorem a9o (o:b8) (c_0:b8) (r:Bool) (hm:a1O o c_0=some r):d7 Tryz.prog 122 [.agg (b8.c o), .ptr (b8.c c_0) 0] (fun x=>x=DB r):=by
 refine zn Tryz.func122 rfl ?_
 apply vb hm<;>intro _ hm
 refine cy hm (a8D o c_0) fun x2 hm=> ?_
 exact hm.rr
 exact hm.rr
def C4 (s:(List b8)) (c1_0:b8):Int→Option (Sum Int (Sum Int Int)):=fun v7=>
 if(decide (v7<(s.length:Int)))=true then
  Option.bind (idx s v7) fun e15=>
  Option.bind (a1O e15 c1_0) fun x17=>
  if x17=true then
   some (.inr (.inr v7))
  else
   some (.inl (W (v7+1)))
 else
  some (.inr (.inl v7))
def D7 (s:(List b8)) (c1_0:b8):Option Int:=
 Option.bind (j4 (C4 s c1_0) 0) fun e=>
 match e with
 | .inl v20=>
  some (-1)
 | .inr rr21=>
  some rr21
theorem O9 (s:(List b8)) (c1_0:b8) (r:Int) (hm:D7 s c1_0=some r):d7 Tryz.prog 94 [lD 5 s b8.c, .fn 122 [] [.ptr (b8.c c1_0) 0]] (fun x=>x=DI r):=by
 refine zn Tryz.func94 rfl ?_
 obtain⟨ev22,he,hk23⟩:=b9 hm
 refine c9k (C4 s c1_0) (fun v7=>⟨[(0,lD 5 s b8.c),(1, .fn 122 [] [.ptr (b8.c c1_0) 0]),(7,DI (s.length:Int)),(8,DI v7)], [],0⟩) 0 (sb 0) he ?_
 rintro fu24 v7 b hm hi25
 apply vb hm<;>intro _ hm
 refine ei hm fun e27 hm=> ?_
 refine cy hm (a9o e27 c1_0) fun x29 hm=> ?_
 apply vb hm<;>intro _ hm
 cases hm
 cases hi25
 have hm:=hk23
 exact hm.rr
 cases hm
 exact⟨(_,(W (v7+1))),sb 0,hi25,Nat.lt_succ_self _⟩
 cases hm
 cases hi25
 have hm:=hk23
 exact hm.rr
def B8 (s:(List b8)) (c1_0:b8):Option Bool:=
 Option.bind (D7 s c1_0) fun x1=>
 some (decide (x1≥0))
theorem N2 (s:(List b8)) (c1_0:b8) (r:Bool) (hm:B8 s c1_0=some r):d7 Tryz.prog 53 [lD 5 s b8.c, .fn 122 [] [.ptr (b8.c c1_0) 0]] (fun x=>x=DB r):=by
 refine zn Tryz.func53 rfl ?_
 refine cy hm (O9 s c1_0) fun x1 hm=> ?_
 exact hm.rr
def Q2 (s:b7):Int→Option (Sum Int (Sum Int Bool)):=fun v41=>
 if(decide (v41<(s.Bids.length:Int)))=true then
  Option.bind (idx s.Bids v41) fun e50=>
  gd ((0≤v41∧v41≤(s.Bids.length:Int)))<|
  Option.bind (some (sub s.Bids 0 (v41).toNat)) fun sl52=>
  Option.bind (F1 sl52 e50) fun x53=>
  if x53=true then
   some (.inr (.inr false))
  else
   some (.inl (W (v41+1)))
 else
  some (.inr (.inl v41))
def Q3 (s:b7):Int→Option (Sum Int (Sum Int Bool)):=fun v65=>
 if(decide (v65<(s.Leases.length:Int)))=true then
  Option.bind (idx s.Leases v65) fun e75=>
  if(e75.No !=(W (v65+1)))=true then
   some (.inr (.inr false))
  else
   gd ((0≤v65∧v65≤(s.Leases.length:Int)))<|
   Option.bind (some (sub s.Leases 0 (v65).toNat)) fun sl78=>
   Option.bind (B8 sl78 e75) fun x79=>
   if x79=true then
    some (.inr (.inr false))
   else
    some (.inl (W (v65+1)))
 else
  some (.inr (.inl v65))
def R5 (me:Int) (s:b7):Option Bool:=
 Option.bind (u7 me) fun x1=>
 if(!x1)=true then
  some false
 else
  Option.bind (i5 s.Round 0 9999) fun x4=>
  if(!x4)=true then
   some false
  else
   Option.bind (J5 s.Slots 12) fun x7=>
   if(!x7)=true then
    some false
   else
    Option.bind (I2 s.Bids 12 s me) fun x10=>
    if(!x10)=true then
     some false
    else
     Option.bind (F5 s.Heard 60) fun x13=>
     if(!x13)=true then
      some false
     else
      Option.bind (F3 s.Leases 40 me) fun x16=>
      if(!x16)=true then
       some false
      else
       Option.bind (G6 s.Loans 60 me) fun x19=>
       if(!x19)=true then
        some false
       else
        Option.bind (C6 s.Slots) fun x22=>
        if(!x22)=true then
         some false
        else
         Option.bind (E6 s.Bids) fun x25=>
         if(!x25)=true then
          some false
         else
          Option.bind (B7 s.Heard) fun x28=>
          if(!x28)=true then
           some false
          else
           Option.bind (D0 s.Loans) fun x31=>
           if(!x31)=true then
            some false
           else
            Option.bind (j4 (Q2 s) 0) fun e=>
            match e with
            | .inl v56=>
             Option.bind (j4 (Q3 s) 0) fun e=>
             match e with
             | .inl v82=>
              some true
             | .inr rr83=>
              some rr83
            | .inr rr96=>
             some rr96
theorem a3p (me:Int) (s:b7) (r:Bool) (hm:R5 me s=some r):d7 Tryz.prog 72 [DI me, .agg (b7.c s)] (fun x=>x=DB r):=by
 refine zn Tryz.func72 rfl ?_
 refine cy hm (A2 me) fun x1 hm=> ?_
 apply vb hm<;>intro _ hm
 exact hm.rr
 refine cy hm (k9 s.Round 0 9999) fun x4 hm=> ?_
 apply vb hm<;>intro _ hm
 exact hm.rr
 refine cy hm (a1c s.Slots 12) fun x7 hm=> ?_
 apply vb hm<;>intro _ hm
 exact hm.rr
 refine co hm (a0I s.Bids 12 s me) fun x10 hm=> ?_
 apply vb hm<;>intro _ hm
 exact hm.rr
 refine cy hm (a0o s.Heard 60) fun x13 hm=> ?_
 apply vb hm<;>intro _ hm
 exact hm.rr
 refine co hm (a0v s.Leases 40 me) fun x16 hm=> ?_
 apply vb hm<;>intro _ hm
 exact hm.rr
 refine co hm (a0B s.Loans 60 me) fun x19 hm=> ?_
 apply vb hm<;>intro _ hm
 exact hm.rr
 refine cy hm (Y5 s.Slots) fun x22 hm=> ?_
 apply vb hm<;>intro _ hm
 exact hm.rr
 refine cy hm (a0l s.Bids) fun x25 hm=> ?_
 apply vb hm<;>intro _ hm
 exact hm.rr
 refine cy hm (X6 s.Heard) fun x28 hm=> ?_
 apply vb hm<;>intro _ hm
 exact hm.rr
 refine cy hm (Z2 s.Loans) fun x31 hm=> ?_
 apply vb hm<;>intro _ hm
 exact hm.rr
 obtain⟨ev97,he,hk98⟩:=b9 hm
 refine c9k (Q2 s) (fun v41=>⟨[(3, .own 1 0),(82,lD 6 s.Bids c0.c),(83,DI (s.Bids.length:Int)),(84,DI v41)], [(1, .blk (b7.c s) 36)],2⟩) 0 (sb 2) he ?_
 rintro fu99 v41 b hm hi100
 apply vb hm<;>intro _ hm
 refine ei hm fun e102 hm=> ?_
 obtain⟨hg,hm⟩:=c7 hm
 obtain⟨sl104,hy,hm⟩:=b9 hm
 refine⟨hg,_,(b7S (c:=c0.c) (z:=6) (fun _=>rfl) _ _ _).trans (congrArg _ (Option.some.inj hy)), ?_⟩
 have hl:sl104.length=(v41).toNat-0:=by rw [←Option.some.inj hy];exact c0l (by omega)
 rw [←hl]
 refine co hm (P3 sl104 e102) fun x105 hm=> ?_
 apply vb hm<;>intro _ hm
 cases hm
 cases hi100
 have hm:=hk98
 exact hm.rr
 cases hm
 exact⟨(_,(W (v41+1))),sb 2,hi100,Nat.lt_succ_self _⟩
 cases hm
 cases hi100
 have hm:=hk98
 obtain⟨ev135,he,hk136⟩:=b9 hm
 refine c9k (Q3 s) (fun v116=>⟨[(3, .own 1 0),(97,lD 5 s.Leases b8.c),(98,DI (s.Leases.length:Int)),(99,DI v116)], [(1, .blk (b7.c s) 36)],2⟩) 0 (sb 2) he ?_
 rintro fu137 v116 b hm hi138
 apply vb hm<;>intro _ hm
 refine ei hm fun e140 hm=> ?_
 apply vb hm<;>intro _ hm
 cases hm
 cases hi138
 have hm:=hk136
 exact hm.rr
 obtain⟨hg,hm⟩:=c7 hm
 obtain⟨sl143,hy,hm⟩:=b9 hm
 refine⟨hg,_,(b7S (c:=b8.c) (z:=5) (fun _=>rfl) _ _ _).trans (congrArg _ (Option.some.inj hy)), ?_⟩
 have hl:sl143.length=(v116).toNat-0:=by rw [←Option.some.inj hy];exact c0l (by omega)
 rw [←hl]
 refine co hm (N2 sl143 e140) fun x144 hm=> ?_
 apply vb hm<;>intro _ hm
 cases hm
 cases hi138
 have hm:=hk136
 exact hm.rr
 cases hm
 exact⟨(_,(W (v116+1))),sb 2,hi138,Nat.lt_succ_self _⟩
 cases hm
 cases hi138
 have hm:=hk136
 exact hm.rr
def Y8 (x:a6):Option Int:=
 Option.bind (R5 x.Me x.Now) fun x1=>
 if(!x1)=true then
  some 90
 else
  Option.bind (R5 x.Me x.Safe) fun x4=>
  if(!x4)=true then
   some 90
  else
   some 0
theorem P1 (x:a6) (r:Int) (hm:Y8 x=some r):d7 Tryz.prog 33 [.agg (a6.c x)] (fun x=>x=DI r):=by
 refine zn Tryz.func33 rfl ?_
 refine cy hm (a3p x.Me x.Now) fun x1 hm=> ?_
 apply vb hm<;>intro _ hm
 exact hm.rr
 refine cy hm (a3p x.Me x.Safe) fun x4 hm=> ?_
 apply vb hm<;>intro _ hm
 exact hm.rr
 exact hm.rr
def a1z (x:a6):Option ((Option K6)×Int):=
 Option.bind (Y8 x) fun x1=>
 if(x1 !=0)=true then
  some (none,x1)
 else
  Option.bind (C5 x.Now) fun x4=>
  Option.bind (C5 x.Safe) fun x6=>
  some ((some (⟨(⟨x.Me,x4,x6⟩:a6)⟩:K6)),0)
theorem a5L (x:a6) (r:((Option K6)×Int)) (hm:a1z x=some r):d7 Tryz.prog 18 [.agg (a6.c x)] (fun x=>x= .tup [c8f K6.c r.1,DI r.2]):=by
 refine zy b8F [] [] [] Tryz.func18 rfl ?_
 refine cy hm (P1 x) fun x1 hm=> ?_
 apply vb hm<;>intro _ hm
 cases hm
 exact c9j (c9h _)
 refine⟨rfl, ?_⟩
 refine cy hm (M7 x.Now) fun x4 hm=> ?_
 refine cy hm (M7 x.Safe) fun x6 hm=> ?_
 cases hm
 exact c9j (c9h _)
def N0 (s:(List c0)) (i:Int) (v:(List c0)):Option (List c0):=
 gd (0≤i∧i.toNat≤s.length)<|
 if((v.length:Int)==0)=true then
  some s
 else
  if(i==(s.length:Int))=true then
   gd ((s.length+v.length)*48≤140737488355328∧s.length+v.length≤9223372036854775807)<|
   some (s++v)
  else
   gd (0≤i∧i.toNat<s.length∧0<v.length∧(s.length+v.length)*48≤140737488355328∧s.length+v.length≤9223372036854775807) (some (s.take i.toNat++v++s.drop i.toNat))
theorem a2W (s:(List c0)) (i:Int) (v:(List c0)) (r:(List c0)) (hm:N0 s i v=some r):b3u Tryz.prog 51 6 s.length (s.flatMap c0.c) 67 [DI i,lD 6 v c0.c] 6 r.length (r.flatMap c0.c):=by
 obtain⟨hg0,hm⟩:=c7 hm
 refine a8j (X:=⟨Tryz.prog,tt,Tryz.f51.ntmps, [], [], [], [], [], []⟩) (t:=31) (tI:=3) (tB:=4) (ov:=91) (ty:=67) (args:= [lD 6 v c0.c]) pok Tryz.func51 rfl rfl .mk .mk (Nat.le_of_ble_eq_true rfl) hg0 rfl rfl rfl rfl rfl rfl (by kernel_rfl) ⟨⟨_,4,Tryz.func91,by kernel_rfl,by kernel_rfl,by kernel_rfl,by kernel_rfl⟩⟩ (by decide) ?_
 apply vb hm<;>intro _ hm
 cases hm
 exact⟨rfl,rfl⟩
 apply vb hm<;>intro _ hm
 obtain⟨hg,hm⟩:=c7 hm
 refine⟨hg,_,_,c8 (c:=c0.c) (l:=(s:List c0)) (r:=(v:List c0)), ?_⟩
 cases hm
 exact⟨rfl,rfl⟩
 obtain⟨hg,hm⟩:=c7 hm
 cases hm
 exact b9P (fun _=>rfl) hg
def R4 (x:a6):Option (Sum Int ((List a8)×(List c0)×(List a7)×(List b8)×(List b6)×(List a8)×(List c0)×(List a7)×(List b8)×(List b6)×Int×Int×Int)):=
 Option.bind (Y8 x) fun x22=>
 if(x22 !=0)=true then
  some (.inl x22)
 else
  Option.bind (C5 x.Now) fun x25=>
  Option.bind (C5 x.Safe) fun x27=>
  some (.inr (x25.Slots,x25.Bids,x25.Heard,x25.Leases,x25.Loans,x27.Slots,x27.Bids,x27.Heard,x27.Leases,x27.Loans,x.Me,x25.Round,x27.Round))
def v6 (x:(List c0)) (target:c0):(Int×Int)→Option (Sum (Int×Int) (Int×Int)):=fun(i7,j8)=>
 if(decide (i7<j8))=true then
  Option.bind (idx x (W ((IntKind.u64.wrap (W (i7+j8))).fdiv (2^(min (1:Int).toNat IntKind.u64.bits))))) fun e16=>
  Option.bind (I6 e16 target) fun x18=>
  if(decide (x18<0))=true then
   some (.inl ((W ((W ((IntKind.u64.wrap (W (i7+j8))).fdiv (2^(min (1:Int).toNat IntKind.u64.bits))))+1)),j8))
  else
   some (.inl (i7,(W ((IntKind.u64.wrap (W (i7+j8))).fdiv (2^(min (1:Int).toNat IntKind.u64.bits))))))
 else
  some (.inr (i7,j8))
def l9 (x:(List c0)) (target:c0):Option (Int×Bool):=
 Option.bind (j4 (v6 x target) (0,(x.length:Int))) fun(i21,j22)=>
 if(decide (i21<(x.length:Int)))=true then
  Option.bind (idx x i21) fun e24=>
  Option.bind (I6 e24 target) fun x26=>
  some (i21,(x26==0))
 else
  some (i21,false)
theorem K1 (x:(List c0)) (target:c0) (r:(Int×Bool)) (hm:l9 x target=some r):d7 Tryz.prog 90 [lD 6 x c0.c, .agg (c0.c target), .fn 22 [] []] (fun x=>x= .tup [DI r.1,DB r.2]):=by
 refine zy c8I [] [] [] Tryz.func90 rfl ?_
 obtain⟨ev28,he,hk29⟩:=b9 hm
 refine c9k (v6 x target) (fun(i7,j8)=>⟨[(0,lD 6 x c0.c),(2, .fn 22 [] []),(4, .own 0 0),(8,DI (x.length:Int)),(9,DI i7),(10,DI j8)], [(0, .blk (c0.c target) 67)],1⟩) (0,(x.length:Int)) (sb 1) he ?_
 rintro fu30 ⟨i7,j8⟩ b hm hi31
 apply vb hm<;>intro _ hm
 refine⟨by decide, ?_⟩
 refine⟨rfl, ?_⟩
 refine ei hm fun e33 hm=> ?_
 refine cy hm (a0N e33 target) fun x35 hm=> ?_
 apply vb hm<;>intro _ hm
 cases hm
 exact⟨(_,((W ((W ((IntKind.u64.wrap (W (i7+j8))).fdiv (2^(min (1:Int).toNat IntKind.u64.bits))))+1)),j8)),sb 1,hi31,Nat.lt_succ_self _⟩
 cases hm
 exact⟨(_,(i7,(W ((IntKind.u64.wrap (W (i7+j8))).fdiv (2^(min (1:Int).toNat IntKind.u64.bits)))))),sb 1,hi31,Nat.lt_succ_self _⟩
 cases hm
 cases hi31
 have hm:=hk29
 refine⟨rfl, ?_⟩
 apply vb hm<;>intro _ hm
 refine ei hm fun e39 hm=> ?_
 refine cy hm (a0N e39 target) fun x41 hm=> ?_
 cases hm
 exact c9j (c9h _)
 cases hm
 exact c9j (c9h _)
def w5 (l:(List c0)) (x:c0):Option (Int×Bool):=
 Option.bind (l9 l x) fun⟨x1,x2⟩=>
 some (x1,x2)
theorem a0i (l:(List c0)) (x:c0) (r:(Int×Bool)) (hm:w5 l x=some r):d7 Tryz.prog 50 [lD 6 l c0.c, .agg (c0.c x), .fn 22 [] []] (fun x=>x= .tup [DI r.1,DB r.2]):=by
 refine zn Tryz.func50 rfl ?_
 refine cy hm (K1 l x) ?_
 rintro⟨x1,x2⟩ hm
 cases hm
 exact c9j (c9h _)
def Y9 (night:Int) (value:Int) (v10:(List c0)) (x19:Int) (x20:Int):Option (Sum ((List c0)×Int) Unit):=
 Option.bind (w5 v10 (⟨night,(W ((W (6*(W (x20+1))))+x19)),value,0,0,false⟩:c0)) fun⟨x54,x55⟩=>
 if x55=true then
  some (.inl (v10,x54))
 else
  if((v10.length:Int)==12)=true then
   some (.inr ())
  else
   Option.bind (N0 v10 x54 ([(⟨night,(W ((W (6*(W (x20+1))))+x19)),value,0,0,false⟩:c0)]:List c0)) fun x59=>
   some (.inl (x59,x54))
def Y4 (x:a6) (night:Int) (value:Int):Option (a6×Int):=
 Option.bind (R4 x) fun e=>
 match e with
 | .inl x8=>
  if(x8 !=0)=true then
   some ((⟨0,(⟨0, [], [], [], [], []⟩:b7),(⟨0, [], [], [], [], []⟩:b7)⟩:a6),x8)
  else
   Option.bind (u6 night) fun x32=>
   if(!x32)=true then
    some ((⟨0,(⟨0, [], [], [], [], []⟩:b7),(⟨0, [], [], [], [], []⟩:b7)⟩:a6),6)
   else
    Option.bind (j0 value) fun x35=>
    if(!x35)=true then
     some ((⟨0,(⟨0, [], [], [], [], []⟩:b7),(⟨0, [], [], [], [], []⟩:b7)⟩:a6),1)
    else
     none
 | .inr (v9,v10,v11,v12,v13,v14,v15,v16,v17,v18,x19,x20,x21)=>
  Option.bind (u6 night) fun x38=>
  if(!x38)=true then
   some ((⟨0,(⟨0, [], [], [], [], []⟩:b7),(⟨0, [], [], [], [], []⟩:b7)⟩:a6),6)
  else
   Option.bind (j0 value) fun x41=>
   if(!x41)=true then
    some ((⟨0,(⟨0, [], [], [], [], []⟩:b7),(⟨0, [], [], [], [], []⟩:b7)⟩:a6),1)
   else
    if(x20==9999)=true then
     some ((⟨0,(⟨0, [], [], [], [], []⟩:b7),(⟨0, [], [], [], [], []⟩:b7)⟩:a6),2)
    else
     Option.bind (Y9 night value v10 x19 x20) fun e=>
     match e with
     | .inl (v52,x53)=>
      Option.bind (idx v52 x53) fun e63=>
      Option.bind (idx v52 x53) fun e65=>
      some ((⟨x19,(⟨(W (x20+1)),v9,(v52.set x53.toNat (⟨night,(W ((W (6*(W (x20+1))))+x19)),value,0,0,false⟩:c0)),v11,v12,v13⟩:b7),(⟨x21,v14,v15,v16,v17,v18⟩:b7)⟩:a6),0)
     | .inr _=>
      some ((⟨0,(⟨0, [], [], [], [], []⟩:b7),(⟨0, [], [], [], [], []⟩:b7)⟩:a6),2)
theorem a6h (x:a6) (night:Int) (value:Int) (r:(a6×Int)) (hm:Y4 x night value=some r):d7 Tryz.prog 6 [.agg (a6.c x),DI night,DI value] (fun x=>x= .tup [.agg (a6.c r.1),DI r.2]):=by
 refine zy pl6 [51,76,144,145,173] [32] [18,21] Tryz.func6 rfl ?_
 obtain⟨ev29,he30,hm⟩:=b9 hm
 refine M2.ofZ pok ⟨[(0, .agg (a6.c x)),(1000001,DI night),(1000002,DI value),(1000006, .own 1 0)], [(1, .blk [DI 0,DI 0,nS,nS,nS,nS,nS,DI 0,nS,nS,nS,nS,nS] 38)],2⟩ (match ev29 with| .inl x8=>(⟨[(1,DI night),(2,DI value),(6, .own 1 0),(16, .tup [.v (.pointer none),DI x8])], [(1, .blk [DI 0,DI 0,nS,nS,nS,nS,nS,DI 0,nS,nS,nS,nS,nS] 38)],2⟩:Sy)| .inr (v9,v10,v11,v12,v13,v14,v15,v16,v17,v18,x19,x20,x21)=>(⟨[(1,DI night),(2,DI value),(6, .own 1 0),(16, .tup [.own 13 0,DI 0])], [(1, .blk [DI 0,DI 0,nS,nS,nS,nS,nS,DI 0,nS,nS,nS,nS,nS] 38),(3,rE 4 v9 a8.c 87),(4,rE 6 v10 c0.c 67),(5,rE 4 v11 a7.c 89),(6,rE 5 v12 b8.c 73),(7,rE 6 v13 b6.c 78),(8,rE 4 v14 a8.c 87),(9,rE 6 v15 c0.c 67),(10,rE 4 v16 a7.c 89),(11,rE 5 v17 b8.c 73),(12,rE 6 v18 b6.c 78),(13, .blk [DI x19,DI x20, .row 3 4, .row 4 6, .row 5 4, .row 6 5, .row 7 6,DI x21, .row 8 4, .row 9 6, .row 10 4, .row 11 5, .row 12 6] 65)],14⟩:Sy):Sy) b8F [51,76,144,145,173] [32] [18,21] Tryz.func18 rfl rfl rfl (sb 2) (fun sv=> ?_) ?_
 have hm:=he30
 refine cy hm (P1 x) fun x74 hm=> ?_
 apply vb hm<;>intro _ hm
 cases hm
 exact sb 2
 refine⟨rfl, ?_⟩
 obtain⟨x77,hx78,hm⟩:=b9 hm
 refine .inr (a4O.mk ⟨_,_,L1 x.Now _ hx78, ?_⟩)
 obtain⟨x79,hx80,hm⟩:=b9 hm
 refine .inr (a4O.mk ⟨_,_,L1 x.Safe _ hx80, ?_⟩)
 cases hm
 exact sb 14
 rcases ev29 with x8|⟨v9,v10,v11,v12,v13,v14,v15,v16,v17,v18,x19,x20,x21⟩
 apply vb hm<;>intro _ hm
 cases hm
 exact c9j (le1)
 refine cy hm (A3 night) fun x32 hm=> ?_
 apply vb hm<;>intro _ hm
 cases hm
 exact c9j (le1)
 refine cy hm (n6 value) fun x35 hm=> ?_
 apply vb hm<;>intro _ hm
 cases hm
 exact c9j (le1)
 cases hm
 refine cy hm (A3 night) fun x38 hm=> ?_
 apply vb hm<;>intro _ hm
 cases hm
 exact c9j (le1)
 refine cy hm (n6 value) fun x41 hm=> ?_
 apply vb hm<;>intro _ hm
 cases hm
 exact c9j (le1)
 apply vb hm<;>intro _ hm
 cases hm
 exact c9j (le1)
 refine⟨rfl, ?_⟩
 refine⟨rfl, ?_⟩
 obtain⟨ev61,he62,hm⟩:=b9 hm
 refine M2.ofZ pok ⟨[(0, .row 4 6),(1, .agg [DI night,DI (W ((W (6*(W (x20+1))))+x19)),DI value,DI 0,DI 0,DB false]),(2,DI 12),(3, .fn 22 [] []),(1000006, .own 1 0),(1000008, .own 13 0),(1000010, .own 14 0)], [(1, .blk [DI 0,DI 0,nS,nS,nS,nS,nS,DI 0,nS,nS,nS,nS,nS] 38),(3,rE 4 v9 a8.c 87),(4,rE 6 v10 c0.c 67),(5,rE 4 v11 a7.c 89),(6,rE 5 v12 b8.c 73),(7,rE 6 v13 b6.c 78),(8,rE 4 v14 a8.c 87),(9,rE 6 v15 c0.c 67),(10,rE 4 v16 a7.c 89),(11,rE 5 v17 b8.c 73),(12,rE 6 v18 b6.c 78),(13, .blk [DI x19,DI (W (x20+1)), .row 3 4, .row 4 6, .row 5 4, .row 6 5, .row 7 6,DI x21, .row 8 4, .row 9 6, .row 10 4, .row 11 5, .row 12 6] 65),(14, .blk [DI night,DI (W ((W (6*(W (x20+1))))+x19)),DI value,DI 0,DI 0,DB false] 67)],15⟩ (match ev61 with| .inl (v52,x53)=>(⟨[(6, .own 1 0),(8, .own 13 0),(10, .own 14 0),(78, .tup [.row 4 6,DI x53,DB true])], [(1, .blk [DI 0,DI 0,nS,nS,nS,nS,nS,DI 0,nS,nS,nS,nS,nS] 38),(3,rE 4 v9 a8.c 87),(4,rE 6 v52 c0.c 67),(5,rE 4 v11 a7.c 89),(6,rE 5 v12 b8.c 73),(7,rE 6 v13 b6.c 78),(8,rE 4 v14 a8.c 87),(9,rE 6 v15 c0.c 67),(10,rE 4 v16 a7.c 89),(11,rE 5 v17 b8.c 73),(12,rE 6 v18 b6.c 78),(13, .blk [DI x19,DI (W (x20+1)), .row 3 4, .bad, .row 5 4, .row 6 5, .row 7 6,DI x21, .row 8 4, .row 9 6, .row 10 4, .row 11 5, .row 12 6] 65),(14, .blk [DI night,DI (W ((W (6*(W (x20+1))))+x19)),DI value,DI 0,DI 0,DB false] 67)],15⟩:Sy)| .inr _=>(⟨[(6, .own 1 0),(8, .own 13 0),(10, .own 14 0),(78, .tup [nS,DI 0,DB false])], [(1, .blk [DI 0,DI 0,nS,nS,nS,nS,nS,DI 0,nS,nS,nS,nS,nS] 38),(3,rE 4 v9 a8.c 87),(4,rE 6 v10 c0.c 67),(5,rE 4 v11 a7.c 89),(6,rE 5 v12 b8.c 73),(7,rE 6 v13 b6.c 78),(8,rE 4 v14 a8.c 87),(9,rE 6 v15 c0.c 67),(10,rE 4 v16 a7.c 89),(11,rE 5 v17 b8.c 73),(12,rE 6 v18 b6.c 78),(13, .blk [DI x19,DI (W (x20+1)), .row 3 4, .row 4 6, .row 5 4, .row 6 5, .row 7 6,DI x21, .row 8 4, .row 9 6, .row 10 4, .row 11 5, .row 12 6] 65),(14, .blk [DI night,DI (W ((W (6*(W (x20+1))))+x19)),DI value,DI 0,DI 0,DB false] 67)],15⟩:Sy):Sy) [] [51,76,144,145,173] [32] [18,21] Tryz.func21 rfl rfl rfl (sb 15) (fun sv=> ?_) ?_
 have hm:=he62
 refine co hm (a0i v10 ((⟨night,(W ((W (6*(W (x20+1))))+x19)),value,0,0,false⟩:c0))) ?_
 rintro⟨x67,x68⟩ hm
 apply vb hm<;>intro _ hm
 cases hm
 exact Q0.of 15 rfl (tA rfl) ⟨hR rfl,hW rfl,hW rfl,hW rfl,hW rfl,hW rfl,hW rfl,hW rfl,hW rfl,hW rfl,hW rfl,⟨_,rfl,⟨c9h _,c9h _,c9h _,c9h _,c9h _,c9h _,c9h _,c9h _,c9h _,c9h _,c9h _,c9h _,trivial⟩⟩,hR rfl,trivial⟩
 apply vb hm<;>intro _ hm
 cases hm
 exact sb 15
 refine⟨([(⟨night,(W ((W (6*(W (x20+1))))+x19)),value,0,0,false⟩:c0)]:List c0).flatMap c0.c,([(⟨night,(W ((W (6*(W (x20+1))))+x19)),value,0,0,false⟩:c0)]:List c0).length,⟨rfl,rfl⟩, ?_⟩
 obtain⟨x72,hx73,hm⟩:=b9 hm
 refine .inl (b2N.mk ⟨_,_,_,_,_,_,_,rfl,a2W v10 x67 (([(⟨night,(W ((W (6*(W (x20+1))))+x19)),value,0,0,false⟩:c0)]:List c0)) _ hx73, ?_⟩)
 cases hm
 exact sb 15
 rcases ev61 with⟨v52,x53⟩|⟨⟩
 refine eb hm fun _ hm=> ?_
 obtain⟨e65,hx66,hm⟩:=b9 hm
 refine⟨_,a1M (fun _=>rfl) hx66,_,Q6 (y:=(⟨night,(W ((W (6*(W (x20+1))))+x19)),value,0,0,false⟩:c0)) (fun _=>rfl) hx66, ?_⟩
 cases hm
 exact c9j (by first|exact c9h _|(simp only [a6.c,lD,List.length_set];exact c9h _))
 cases hm
 exact c9j (le1)
def a0R (o:b8) (c_0:b8):Option Bool:=
 if(o.Thing==c_0.Thing)=true then
  Option.bind (a1s o c_0) fun x2=>
  some x2
 else
  some false
theorem a7s (o:b8) (c_0:b8) (r:Bool) (hm:a0R o c_0=some r):d7 Tryz.prog 54 [.agg (b8.c o), .ptr (b8.c c_0) 0] (fun x=>x=DB r):=by
 refine zn Tryz.func54 rfl ?_
 apply vb hm<;>intro _ hm
 refine cy hm (a8D o c_0) fun x2 hm=> ?_
 exact hm.rr
 exact hm.rr
end Go.Proofs.YtlngjieodaocfaaGreatDoor
