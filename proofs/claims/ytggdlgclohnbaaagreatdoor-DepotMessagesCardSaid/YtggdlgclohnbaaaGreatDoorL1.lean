/- Functions of the program as pure Lean functions, and that calls do what these say. Printed by a program out of the given form. -/
import Derived.Test.YtggdlgclohnbaaaGreatDoorH1
set_option linter.unusedVariables false
set_option linter.unusedSimpArgs false
namespace Go.Proofs.YtggdlgclohnbaaaGreatDoor
open Go Go.RowKit Go.Sx
set_option maxRecDepth 100000
set_option maxHeartbeats 20000000
def z7 (n:Int) (lo:Int) (hi:Int):Option Bool:=
 if(decide (lo≤n))=true then
  some (decide (n≤hi))
 else
  some false
theorem D5 (n:Int) (lo:Int) (hi:Int) (r:Bool) (hm:z7 n lo hi=some r):o9 Tryz.prog 95 [DI n,DI lo,DI hi] (fun x=>x=DB r):=by
 refine zn Tryz.func95 rfl ?_;apply vb hm<;>intro _ hm;exact hm.rr;exact hm.rr
def Z4 (n:Int):Option Bool:=
 Option.bind (z7 n 0 100000) fun x1=>
 some x1
theorem a4V (n:Int) (r:Bool) (hm:Z4 n=some r):o9 Tryz.prog 110 [DI n] (fun x=>x=DB r):=by
 refine zn Tryz.func110 rfl ?_;refine cy hm (D5 n 0 100000) fun x1 hm=> ?_
 exact hm.rr
def C4 (n:Int):Option Bool:=
 Option.bind (z7 n 0 5) fun x1=>
 some x1
theorem M6 (n:Int) (r:Bool) (hm:C4 n=some r):o9 Tryz.prog 116 [DI n] (fun x=>x=DB r):=by
 refine zn Tryz.func116 rfl ?_;refine cy hm (D5 n 0 5) fun x1 hm=> ?_
 exact hm.rr
def U7 (x:o5):Option Bool:=
 Option.bind (C4 x.Depot) fun x1=>
 if x1=true then
  Option.bind (z7 x.No 0 9999) fun x4=>
  some x4
 else
  some false
theorem a5p (x:o5) (r:Bool) (hm:U7 x=some r):o9 Tryz.prog 138 [.agg (o5.c x)] (fun x=>x=DB r):=by
 refine zn Tryz.func138 rfl ?_;refine cy hm (M6 x.Depot) fun x1 hm=> ?_
 apply vb hm<;>intro _ hm;refine cy hm (D5 x.No 0 9999) fun x4 hm=> ?_
 exact hm.rr;exact hm.rr
def N3 (by1:(List Int)):Int→Option (Sum Int (Sum Int Bool)):=fun v7=>
 if(decide (v7<(by1.length:Int)))=true then
  Option.bind (idx by1 v7) fun e14=>
  if(decide (e14<32))=true then
   some (.inr (.inr false))
  else
   if(decide (e14>126))=true then
    some (.inr (.inr false))
   else
    some (.inl (W (v7+1)))
 else
  some (.inr (.inl v7))
def a0P (s:ByteArray):Option Bool:=
 gd (s.size≤9223372036854775807)<|
 Option.bind (some (E8 s)) fun by1=>
 Option.bind (q8 (N3 by1) 0) fun e=>
 match e with
 | .inl v18=>
  some (decide ((s.size:Int)≤160))
 | .inr rr19=>
  some rr19
theorem b1G (s:ByteArray) (r:Bool) (hm:a0P s=some r):o9 Tryz.prog 139 [.v (.string s)] (fun x=>x=DB r):=by
 refine zn Tryz.func139 rfl ?_;obtain⟨hg,hm⟩:=j1 hm;obtain⟨by1,hy,hm⟩:=d8 hm;refine⟨⟨5, .string,by kernel_rfl,by kernel_rfl,by kernel_rfl⟩,hg,_,_,b2e (fun _=>rfl) hy, ?_⟩;clear hy;obtain⟨ev20,he,hk21⟩:=d8 hm;refine d0h (N3 by1) (fun v7=>⟨[(0, .v (.string s)),(6,lD 1 by1 a9X),(7,DI (by1.length:Int)),(8,DI v7)], [],0⟩) 0 (sb 0) he ?_;rintro fu22 v7 b hm hi23;apply vb hm<;>intro _ hm;refine ei hm fun _ hm=> ?_
 apply vb hm<;>intro _ hm;cases hm;cases hi23;have hm:=hk21;exact hm.rr;apply vb hm<;>intro _ hm;cases hm;cases hi23;have hm:=hk21;exact hm.rr;cases hm;exact⟨(_,(W (v7+1))),sb 0,hi23,Nat.lt_succ_self _⟩;cases hm;cases hi23;have hm:=hk21;exact hm.rr
def o7 (r_:b9):Option Bool:=
 Option.bind (U7 r_.At) fun x1=>
 if(!x1)=true then
  some false
 else
  Option.bind (z7 r_.Kind 0 60) fun x4=>
  if(!x4)=true then
   some false
  else
   Option.bind (Z4 r_.Day) fun x7=>
   if(!x7)=true then
    some false
   else
    Option.bind (Z4 r_.Known) fun x10=>
    if(!x10)=true then
     some false
    else
     Option.bind (a0P r_.Text) fun x13=>
     if(!x13)=true then
      some false
     else
      if(r_.Kind==0)=true then
       if(r_.Day==0)=true then
        if(r_.Text.toList==(⟨#[]⟩:ByteArray).toList)=true then
         Option.bind (U7 r_.Of) fun x19=>
         if x19=true then
          if(r_.Of.Depot==r_.At.Depot)=true then
           some (decide (r_.Of.No<r_.At.No))
          else
           some false
         else
          some false
        else
         some false
       else
        some false
      else
       some ((r_.Of.Depot==0)&&(r_.Of.No==0))
theorem z8 (r_:b9) (r:Bool) (hm:o7 r_=some r):o9 Tryz.prog 91 [.agg (b9.c r_)] (fun x=>x=DB r):=by
 refine zn Tryz.func91 rfl ?_;refine cy hm (a5p r_.At) fun x1 hm=> ?_
 apply vb hm<;>intro _ hm;exact hm.rr;refine cy hm (D5 r_.Kind 0 60) fun x4 hm=> ?_
 apply vb hm<;>intro _ hm;exact hm.rr;refine cy hm (a4V r_.Day) fun x7 hm=> ?_
 apply vb hm<;>intro _ hm;exact hm.rr;refine cy hm (a4V r_.Known) fun x10 hm=> ?_
 apply vb hm<;>intro _ hm;exact hm.rr;refine cy hm (b1G r_.Text) fun x13 hm=> ?_
 apply vb hm<;>intro _ hm;exact hm.rr;apply vb hm<;>intro _ hm;apply vb hm<;>intro _ hm;apply vb hm<;>intro _ hm;refine cy hm (a5p r_.Of) fun x19 hm=> ?_
 apply vb hm<;>intro _ hm;apply vb hm<;>intro _ hm;exact hm.rr;exact hm.rr;exact hm.rr;exact hm.rr;exact hm.rr;exact hm.rr
def H8 (s sep:ByteArray):Option Int:=gd (sep.size=1) (some (Lib.indexByte s.data.toList (sep.data.toList.headD 0)))
theorem a1R (s sep:ByteArray) (r:Int) (hm:H8 s sep=some r):o9 Tryz.prog 190 [.v (.string s), .v (.string sep)] (fun x=>x=DI r):=by
 obtain⟨hg,hm⟩:=j1 hm;cases hm;exact b4Q c1d s sep hg
def K6 (s:ByteArray) (sep:ByteArray):Option (ByteArray×ByteArray×Bool):=
 Option.bind (H8 s sep) fun x1=>
 if(decide (x1≥0))=true then
  gd ((0≤x1∧x1≤(s.size:Int)))<|
  gd ((0≤(W (x1+(sep.size:Int)))∧(W (x1+(sep.size:Int)))≤(s.size:Int)))<|
  some ((s.extract 0 ((x1).toNat)),(s.extract (((W (x1+(sep.size:Int)))).toNat) s.size),true)
 else
  some (s,(⟨#[]⟩:ByteArray),false)
theorem a2r (s:ByteArray) (sep:ByteArray) (r:(ByteArray×ByteArray×Bool)) (hm:K6 s sep=some r):o9 Tryz.prog 172 [.v (.string s), .v (.string sep)] (fun x=>x= .tup [.v (.string r.1), .v (.string r.2.1),DB r.2.2]):=by
 refine zy c7k [] [] [] Tryz.func172 rfl ?_;refine cy hm (a1R s sep) fun x1 hm=> ?_
 apply vb hm<;>intro _ hm;refine⟨rfl, ?_⟩;obtain⟨hg,hm⟩:=j1 hm;refine⟨hg, ?_⟩;obtain⟨hg,hm⟩:=j1 hm;refine⟨hg, ?_⟩;cases hm;exact d0g (d0e _);cases hm;exact d0g (d0e _)
def a3F (s:ByteArray) (sep:ByteArray):Option (ByteArray×ByteArray×Bool):=
 Option.bind (K6 s sep) fun⟨x1,x2,x3⟩=>
 some (x1,x2,x3)
theorem b2Y (s:ByteArray) (sep:ByteArray) (r:(ByteArray×ByteArray×Bool)) (hm:a3F s sep=some r):o9 Tryz.prog 157 [.v (.string s), .v (.string sep)] (fun x=>x= .tup [.v (.string r.1), .v (.string r.2.1),DB r.2.2]):=by
 refine zn Tryz.func157 rfl ?_;refine cy hm (a2r s sep) ?_;rintro⟨x1,x2,x3⟩ hm;cases hm;exact d0g (d0e _)
end Go.Proofs.YtggdlgclohnbaaaGreatDoor
