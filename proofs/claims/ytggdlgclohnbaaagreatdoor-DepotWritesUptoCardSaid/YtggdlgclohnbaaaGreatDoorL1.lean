/- Functions of the program as pure Lean functions, and that calls do what these say. Printed by a program out of the given form. -/
import Derived.Test.YtggdlgclohnbaaaGreatDoorH1
set_option linter.unusedVariables false
set_option linter.unusedSimpArgs false
namespace Go.Proofs.YtggdlgclohnbaaaGreatDoor
open Go Go.RowKit Go.Sx
set_option maxRecDepth 100000
set_option maxHeartbeats 20000000
def z6 (n:Int) (lo:Int) (hi:Int):Option Bool:=
 if(decide (lo≤n))=true then
  some (decide (n≤hi))
 else
  some false
theorem D8 (n:Int) (lo:Int) (hi:Int) (r:Bool) (hm:z6 n lo hi=some r):q8 Tryz.prog 95 [DI n,DI lo,DI hi] (fun x=>x=DB r):=by
 refine zn Tryz.func95 rfl ?_;apply vb hm<;>intro _ hm;exact hm.rr;exact hm.rr
def V6 (n:Int):Option Bool:=
 Option.bind (z6 n 0 100000) fun x1=>
 some x1
theorem a4t (n:Int) (r:Bool) (hm:V6 n=some r):q8 Tryz.prog 110 [DI n] (fun x=>x=DB r):=by
 refine zn Tryz.func110 rfl ?_;refine cy hm (D8 n 0 100000) fun x1 hm=> ?_
 exact hm.rr
def a1z (n:Int):Option Bool:=
 Option.bind (z6 n 0 5) fun x1=>
 some x1
theorem a9P (n:Int) (r:Bool) (hm:a1z n=some r):q8 Tryz.prog 116 [DI n] (fun x=>x=DB r):=by
 refine zn Tryz.func116 rfl ?_;refine cy hm (D8 n 0 5) fun x1 hm=> ?_
 exact hm.rr
def R8 (x:o6):Option Bool:=
 Option.bind (a1z x.Depot) fun x1=>
 if x1=true then
  Option.bind (z6 x.No 0 9999) fun x4=>
  some x4
 else
  some false
theorem a4Q (x:o6) (r:Bool) (hm:R8 x=some r):q8 Tryz.prog 138 [.agg (o6.c x)] (fun x=>x=DB r):=by
 refine zn Tryz.func138 rfl ?_;refine cy hm (a9P x.Depot) fun x1 hm=> ?_
 apply vb hm<;>intro _ hm;refine cy hm (D8 x.No 0 9999) fun x4 hm=> ?_
 exact hm.rr;exact hm.rr
def L2 (by1:(List Int)):Int→Option (Sum Int (Sum Int Bool)):=fun v7=>
 if(decide (v7<(by1.length:Int)))=true then
  Option.bind (idx by1 v7) fun e14=>
  if(decide (e14<32))=true then
   some (.inr (.inr false))
  else
   if(decide (e14>126))=true then
    some (.inr (.inr false))
   else
    some (.inl (W (v7+1)))
 else
  some (.inr (.inl v7))
def a0l (s:ByteArray):Option Bool:=
 gd (s.size≤9223372036854775807)<|
 Option.bind (some (D5 s)) fun by1=>
 Option.bind (w6 (L2 by1) 0) fun e=>
 match e with
 | .inl v18=>
  some (decide ((s.size:Int)≤160))
 | .inr rr19=>
  some rr19
theorem b1D (s:ByteArray) (r:Bool) (hm:a0l s=some r):q8 Tryz.prog 139 [.v (.string s)] (fun x=>x=DB r):=by
 refine zn Tryz.func139 rfl ?_;obtain⟨hg,hm⟩:=j2 hm;obtain⟨by1,hy,hm⟩:=j0 hm;refine⟨⟨5, .string,by kernel_rfl,by kernel_rfl,by kernel_rfl⟩,hg,_,_,b0L (fun _=>rfl) hy, ?_⟩;clear hy;obtain⟨ev20,he,hk21⟩:=j0 hm;refine c9o (L2 by1) (fun v7=>⟨[(0, .v (.string s)),(6,lD 1 by1 a6s),(7,DI (by1.length:Int)),(8,DI v7)], [],0⟩) 0 (sb 0) he ?_;rintro fu22 v7 b hm hi23;apply vb hm<;>intro _ hm;refine ei hm fun _ hm=> ?_
 apply vb hm<;>intro _ hm;cases hm;cases hi23;have hm:=hk21;exact hm.rr;apply vb hm<;>intro _ hm;cases hm;cases hi23;have hm:=hk21;exact hm.rr;cases hm;exact⟨(_,(W (v7+1))),sb 0,hi23,D7 _⟩;cases hm;cases hi23;have hm:=hk21;exact hm.rr
def o9 (r_:b9):Option Bool:=
 Option.bind (R8 r_.At) fun x1=>
 if(!x1)=true then
  some false
 else
  Option.bind (z6 r_.Kind 0 60) fun x4=>
  if(!x4)=true then
   some false
  else
   Option.bind (V6 r_.Day) fun x7=>
   if(!x7)=true then
    some false
   else
    Option.bind (V6 r_.Known) fun x10=>
    if(!x10)=true then
     some false
    else
     Option.bind (a0l r_.Text) fun x13=>
     if(!x13)=true then
      some false
     else
      if(r_.Kind==0)=true then
       if(r_.Day==0)=true then
        if(r_.Text.toList==(⟨#[]⟩:ByteArray).toList)=true then
         Option.bind (R8 r_.Of) fun x19=>
         if x19=true then
          if(r_.Of.Depot==r_.At.Depot)=true then
           some (decide (r_.Of.No<r_.At.No))
          else
           some false
         else
          some false
        else
         some false
       else
        some false
      else
       some ((r_.Of.Depot==0)&&(r_.Of.No==0))
theorem z7 (r_:b9) (r:Bool) (hm:o9 r_=some r):q8 Tryz.prog 91 [.agg (b9.c r_)] (fun x=>x=DB r):=by
 refine zn Tryz.func91 rfl ?_;refine cy hm (a4Q r_.At) fun x1 hm=> ?_
 apply vb hm<;>intro _ hm;exact hm.rr;refine cy hm (D8 r_.Kind 0 60) fun x4 hm=> ?_
 apply vb hm<;>intro _ hm;exact hm.rr;refine cy hm (a4t r_.Day) fun x7 hm=> ?_
 apply vb hm<;>intro _ hm;exact hm.rr;refine cy hm (a4t r_.Known) fun x10 hm=> ?_
 apply vb hm<;>intro _ hm;exact hm.rr;refine cy hm (b1D r_.Text) fun x13 hm=> ?_
 apply vb hm<;>intro _ hm;exact hm.rr;apply vb hm<;>intro _ hm;apply vb hm<;>intro _ hm;apply vb hm<;>intro _ hm;refine cy hm (a4Q r_.Of) fun x19 hm=> ?_
 apply vb hm<;>intro _ hm;apply vb hm<;>intro _ hm;exact hm.rr;exact hm.rr;exact hm.rr;exact hm.rr;exact hm.rr;exact hm.rr
def G8 (s sep:ByteArray):Option Int:=gd (sep.size=1) (some (Lib.indexByte s.data.toList (sep.data.toList.headD 0)))
theorem a1u (s sep:ByteArray) (r:Int) (hm:G8 s sep=some r):q8 Tryz.prog 190 [.v (.string s), .v (.string sep)] (fun x=>x=DI r):=by
 obtain⟨hg,hm⟩:=j2 hm;cases hm;exact b5k b9Z s sep hg
def I2 (s:ByteArray) (sep:ByteArray):Option (ByteArray×ByteArray×Bool):=
 Option.bind (G8 s sep) fun x1=>
 if(decide (x1≥0))=true then
  gd ((0≤x1∧x1≤(s.size:Int)))<|
  gd ((0≤(W (x1+(sep.size:Int)))∧(W (x1+(sep.size:Int)))≤(s.size:Int)))<|
  some ((s.extract 0 ((x1).toNat)),(s.extract (((W (x1+(sep.size:Int)))).toNat) s.size),true)
 else
  some (s,(⟨#[]⟩:ByteArray),false)
theorem a2q (s:ByteArray) (sep:ByteArray) (r:(ByteArray×ByteArray×Bool)) (hm:I2 s sep=some r):q8 Tryz.prog 172 [.v (.string s), .v (.string sep)] (fun x=>x= .tup [.v (.string r.1), .v (.string r.2.1),DB r.2.2]):=by
 refine zy c7w [] [] [] Tryz.func172 rfl ?_;refine cy hm (a1u s sep) fun x1 hm=> ?_
 apply vb hm<;>intro _ hm;refine⟨rfl, ?_⟩;obtain⟨hg,hm⟩:=j2 hm;refine⟨hg, ?_⟩;obtain⟨hg,hm⟩:=j2 hm;refine⟨hg, ?_⟩;cases hm;exact c9n (c9l _);cases hm;exact c9n (c9l _)
def a3b (s:ByteArray) (sep:ByteArray):Option (ByteArray×ByteArray×Bool):=
 Option.bind (I2 s sep) fun⟨x1,x2,x3⟩=>
 some (x1,x2,x3)
theorem b2E (s:ByteArray) (sep:ByteArray) (r:(ByteArray×ByteArray×Bool)) (hm:a3b s sep=some r):q8 Tryz.prog 157 [.v (.string s), .v (.string sep)] (fun x=>x= .tup [.v (.string r.1), .v (.string r.2.1),DB r.2.2]):=by
 refine zn Tryz.func157 rfl ?_;refine cy hm (a2q s sep) ?_;rintro⟨x1,x2,x3⟩ hm;cases hm;exact c9n (c9l _)
end Go.Proofs.YtggdlgclohnbaaaGreatDoor
