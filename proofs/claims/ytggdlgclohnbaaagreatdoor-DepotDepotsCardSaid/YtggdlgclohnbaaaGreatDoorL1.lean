/- Functions as Lean functions. -/
import Derived.Test.YtggdlgclohnbaaaGreatDoorH1
set_option linter.unusedVariables false
set_option linter.unusedSimpArgs false
namespace Go.Proofs.YtggdlgclohnbaaaGreatDoor
open Go Go.RowKit Go.Sx
set_option maxRecDepth 100000
set_option maxHeartbeats 20000000
def D0(n:Int)(lo:Int)(hi:Int):Option Bool:=
 if(decide (lo≤n))=true then
  some (decide (n≤hi))
 else
  some false
theorem H8(n:Int)(lo:Int)(hi:Int)(r:Bool)(hm:D0 n lo hi=some r):p0 Tryz.prog 95 [DI n,DI lo,DI hi] (fun x=>x=DB r):=by
 refine zn Tryz.func95 rfl ?_;apply vb hm<;>intro _ hm;exact hm.rr;exact hm.rr
def a2i(n:Int):Option Bool:=
 (D0 n 0 100000).bind fun x1=>
 some x1
theorem a8s(n:Int)(r:Bool)(hm:a2i n=some r):p0 Tryz.prog 110 [DI n] (fun x=>x=DB r):=by
 refine zn Tryz.func110 rfl ?_;refine cy hm (H8 n 0 100000) fun x1 hm=>?_
 exact hm.rr
def F7(n:Int):Option Bool:=
 (D0 n 0 5).bind fun x1=>
 some x1
theorem V0(n:Int)(r:Bool)(hm:F7 n=some r):p0 Tryz.prog 116 [DI n] (fun x=>x=DB r):=by
 refine zn Tryz.func116 rfl ?_;refine cy hm (H8 n 0 5) fun x1 hm=>?_
 exact hm.rr
def a1n(x:o4):Option Bool:=
 (F7 x.Depot).bind fun x1=>
 if x1=true then
  (D0 x.No 0 9999).bind fun x4=>
  some x4
 else
  some false
theorem a9q(x:o4)(r:Bool)(hm:a1n x=some r):p0 Tryz.prog 138 [.agg (o4.c x)] (fun x=>x=DB r):=by
 refine zn Tryz.func138 rfl ?_;refine cy hm (V0 x.Depot) fun x1 hm=>?_
 apply vb hm<;>intro _ hm;refine cy hm (H8 x.No 0 9999) fun x4 hm=>?_
 exact hm.rr;exact hm.rr
def V9(by1:(List Int)):Int→Option (Sum Int (Sum Int Bool)):=fun v7=>
 if(decide (v7<(by1.length:Int)))=true then
  (idx by1 v7).bind fun x1=>
  if(decide (x1<32))=true then
   some (.inr (.inr false))
  else
   if(decide (x1>126))=true then
    some (.inr (.inr false))
   else
    some (.inl (W (v7+1)))
 else
  some (.inr (.inl v7))
def a3b(s:ByteArray):Option Bool:=
 gd (s.size≤9223372036854775807)<|
 Option.bind (some (J2 s)) fun by1=>
 (o8 (V9 by1) 0).bind fun e=>
 match e with
 |.inl z1=>
  some (decide ((s.size:Int)≤160))
 |.inr x1=>
  some x1
theorem b5g(s:ByteArray)(r:Bool)(hm:a3b s=some r):p0 Tryz.prog 139 [.v (.string s)] (fun x=>x=DB r):=by
 refine zn Tryz.func139 rfl ?_;obtain⟨hg,hm⟩:=j0 hm;obtain⟨by1,hy,hm⟩:=d9 hm;refine⟨⟨5,.string,by kernel_rfl,by kernel_rfl,by kernel_rfl⟩,hg,_,_,b5b (fun _=>rfl) hy,?_⟩;clear hy;obtain⟨u1,he,z1⟩:=d9 hm;refine d5w (V9 by1) (fun v7=>⟨[(0,.v (.string s)),(6,lD 1 by1 b0i),(7,DI (by1.length:Int)),(8,DI v7)],[],0⟩) 0 (sb 0) he ?_;rintro v1 v7 b hm x1;apply vb hm<;>intro _ hm;refine ei hm fun _ hm=>?_
 apply vb hm<;>intro _ hm;cases hm;cases x1;have hm:=z1;exact hm.rr;apply vb hm<;>intro _ hm;cases hm;cases x1;have hm:=z1;exact hm.rr;cases hm;exact⟨(_,(W (v7+1))),sb 0,x1,D6 _⟩;cases hm;cases x1;have hm:=z1;exact hm.rr
def w7(r_:b9):Option Bool:=
 (a1n r_.At).bind fun x1=>
 if(!x1)=true then
  some false
 else
  (D0 r_.Kind 0 60).bind fun x4=>
  if(!x4)=true then
   some false
  else
   (a2i r_.Day).bind fun x7=>
   if(!x7)=true then
    some false
   else
    (a2i r_.Known).bind fun z1=>
    if(!z1)=true then
     some false
    else
     (a3b r_.Text).bind fun u1=>
     if(!u1)=true then
      some false
     else
      if(r_.Kind==0)=true then
       if(r_.Day==0)=true then
        if(r_.Text.toList==(⟨#[]⟩:ByteArray).toList)=true then
         (a1n r_.Of).bind fun v1=>
         if v1=true then
          if(r_.Of.Depot==r_.At.Depot)=true then
           some (decide (r_.Of.No<r_.At.No))
          else
           some false
         else
          some false
        else
         some false
       else
        some false
      else
       some ((r_.Of.Depot==0)&&(r_.Of.No==0))
theorem C9(r_:b9)(r:Bool)(hm:w7 r_=some r):p0 Tryz.prog 91 [.agg (b9.c r_)] (fun x=>x=DB r):=by
 refine zn Tryz.func91 rfl ?_;refine cy hm (a9q r_.At) fun x1 hm=>?_
 apply vb hm<;>intro _ hm;exact hm.rr;refine cy hm (H8 r_.Kind 0 60) fun x4 hm=>?_
 apply vb hm<;>intro _ hm;exact hm.rr;refine cy hm (a8s r_.Day) fun x7 hm=>?_
 apply vb hm<;>intro _ hm;exact hm.rr;refine cy hm (a8s r_.Known) fun z1 hm=>?_
 apply vb hm<;>intro _ hm;exact hm.rr;refine cy hm (b5g r_.Text) fun u1 hm=>?_
 apply vb hm<;>intro _ hm;exact hm.rr;apply vb hm<;>intro _ hm;apply vb hm<;>intro _ hm;apply vb hm<;>intro _ hm;refine cy hm (a9q r_.Of) fun v1 hm=>?_
 apply vb hm<;>intro _ hm;apply vb hm<;>intro _ hm;exact hm.rr;exact hm.rr;exact hm.rr;exact hm.rr;exact hm.rr;exact hm.rr
def O9(s sep:ByteArray):Option Int:=gd (sep.size=1) (some (Lib.indexByte s.data.toList (sep.data.toList.headD 0)))
theorem a4D(s sep:ByteArray)(r:Int)(hm:O9 s sep=some r):p0 Tryz.prog 190 [.v (.string s),.v (.string sep)] (fun x=>x=DI r):=by
 obtain⟨hg,hm⟩:=j0 hm;cases hm;exact b8Z c6I s sep hg
def S4(s:ByteArray)(sep:ByteArray):Option (ByteArray×ByteArray×Bool):=
 (O9 s sep).bind fun x1=>
 if(decide (x1≥0))=true then
  gd ((0≤x1∧x1≤(s.size:Int)))<|
  gd ((0≤(W (x1+(sep.size:Int)))∧(W (x1+(sep.size:Int)))≤(s.size:Int)))<|
  some ((s.extract 0 ((x1).toNat)),(s.extract (((W (x1+(sep.size:Int)))).toNat) s.size),true)
 else
  some (s,(⟨#[]⟩:ByteArray),false)
theorem a5r(s:ByteArray)(sep:ByteArray)(r:(ByteArray×ByteArray×Bool))(hm:S4 s sep=some r):p0 Tryz.prog 172 [.v (.string s),.v (.string sep)] (fun x=>x=.tup [.v (.string r.1),.v (.string r.2.1),DB r.2.2]):=by
 refine zy d2u [] [] [] Tryz.func172 rfl ?_;refine cy hm (a4D s sep) fun x1 hm=>?_
 apply vb hm<;>intro _ hm;refine⟨rfl,?_⟩;obtain⟨hg,hm⟩:=j0 hm;refine⟨hg,?_⟩;obtain⟨hg,hm⟩:=j0 hm;refine⟨hg,?_⟩;cases hm;exact d5v (d5t _);cases hm;exact d5v (d5t _)
def a6J(s:ByteArray)(sep:ByteArray):Option (ByteArray×ByteArray×Bool):=
 (S4 s sep).bind fun⟨x1,x2,x3⟩=>
 some (x1,x2,x3)
theorem b6V(s:ByteArray)(sep:ByteArray)(r:(ByteArray×ByteArray×Bool))(hm:a6J s sep=some r):p0 Tryz.prog 157 [.v (.string s),.v (.string sep)] (fun x=>x=.tup [.v (.string r.1),.v (.string r.2.1),DB r.2.2]):=by
 refine zn Tryz.func157 rfl ?_;refine cy hm (a5r s sep) ?_;rintro⟨x1,x2,x3⟩ hm;cases hm;exact d5v (d5t _)
end Go.Proofs.YtggdlgclohnbaaaGreatDoor
