/- Functions of the program as pure Lean functions, and that calls do what these say. Printed by a program out of the given form. -/
import Derived.Test.YtggdlgclohnbaaaGreatDoorH1
set_option linter.unusedVariables false
set_option linter.unusedSimpArgs false
namespace Go.Proofs.YtggdlgclohnbaaaGreatDoor
open Go Go.RowKit Go.Sx
set_option maxRecDepth 100000
set_option maxHeartbeats 20000000
def m_depot_within (n:Int) (lo:Int) (hi:Int):Option Bool:=
 if(decide (lo≤n))=true then
  some (decide (n≤hi))
 else
  some false
theorem d_depot_within (n:Int) (lo:Int) (hi:Int) (r:Bool) (hm:m_depot_within n lo hi=some r):Does Tryz.prog 95 [DI n,DI lo,DI hi] (fun x=>x=DB r):=by
 refine does_zy (X:=⟨Tryz.prog,tt,Tryz.f95.ntmps, [], [], [], [], [], []⟩) pok _ Tryz.func95 rfl rfl (Nat.le_of_ble_eq_true rfl) ?_
 revert hm
 refine VIf.b (fun h1 hm=> ?_) (fun h1 hm=> ?_)
 cases hm
 exact RetY.le (leD.refl _)
 cases hm
 exact RetY.le (leD.refl _)
def m_depot_isNight (n:Int):Option Bool:=
 Option.bind (m_depot_within n 0 100000) fun x1=>
 some x1
theorem d_depot_isNight (n:Int) (r:Bool) (hm:m_depot_isNight n=some r):Does Tryz.prog 110 [DI n] (fun x=>x=DB r):=by
 refine does_zy (X:=⟨Tryz.prog,tt,Tryz.f110.ntmps, [], [], [], [], [], []⟩) pok _ Tryz.func110 rfl rfl (Nat.le_of_ble_eq_true rfl) ?_
 obtain⟨x1,hx2,hm⟩:=bd_some hm
 refine CallY.det (d_depot_within n 0 100000 _ hx2) ?_
 cases hm
 exact RetY.le (leD.refl _)
def m_depot_isDepot (n:Int):Option Bool:=
 Option.bind (m_depot_within n 0 5) fun x1=>
 some x1
theorem d_depot_isDepot (n:Int) (r:Bool) (hm:m_depot_isDepot n=some r):Does Tryz.prog 116 [DI n] (fun x=>x=DB r):=by
 refine does_zy (X:=⟨Tryz.prog,tt,Tryz.f116.ntmps, [], [], [], [], [], []⟩) pok _ Tryz.func116 rfl rfl (Nat.le_of_ble_eq_true rfl) ?_
 obtain⟨x1,hx2,hm⟩:=bd_some hm
 refine CallY.det (d_depot_within n 0 5 _ hx2) ?_
 cases hm
 exact RetY.le (leD.refl _)
def m_depot_isItem (x:TItem):Option Bool:=
 Option.bind (m_depot_isDepot x.Depot) fun x1=>
 if x1=true then
  Option.bind (m_depot_within x.No 0 9999) fun x4=>
  some x4
 else
  some false
theorem d_depot_isItem (x:TItem) (r:Bool) (hm:m_depot_isItem x=some r):Does Tryz.prog 138 [.agg (TItem.c x)] (fun x=>x=DB r):=by
 refine does_zy (X:=⟨Tryz.prog,tt,Tryz.f138.ntmps, [], [], [], [], [], []⟩) pok _ Tryz.func138 rfl rfl (Nat.le_of_ble_eq_true rfl) ?_
 obtain⟨x1,hx2,hm⟩:=bd_some hm
 refine CallY.det (d_depot_isDepot x.Depot _ hx2) ?_
 revert hm
 refine VIf.b (fun h3 hm=> ?_) (fun h3 hm=> ?_)
 obtain⟨x4,hx5,hm⟩:=bd_some hm
 refine CallY.det (d_depot_within x.No 0 9999 _ hx5) ?_
 cases hm
 exact RetY.le (leD.refl _)
 cases hm
 exact RetY.le (leD.refl _)
def m_depot_isText_L1 (by1:(List Int)):Int→Option (Sum Int (Sum Int Bool)):=fun v7=>
 if(decide (v7<(by1.length:Int)))=true then
  Option.bind (idx by1 v7) fun e14=>
  if(decide (e14<32))=true then
   some (.inr (.inr false))
  else
   if(decide (e14>126))=true then
    some (.inr (.inr false))
   else
    some (.inl (W (v7+1)))
 else
  some (.inr (.inl v7))
def m_depot_isText (s:ByteArray):Option Bool:=
 gd (s.size≤9223372036854775807)<|
 Option.bind (some (bytesI s)) fun by1=>
 Option.bind (loopF (m_depot_isText_L1 by1) 0) fun e=>
 match e with
 | .inl v18=>
  some (decide ((s.size:Int)≤160))
 | .inr rr19=>
  some rr19
theorem d_depot_isText (s:ByteArray) (r:Bool) (hm:m_depot_isText s=some r):Does Tryz.prog 139 [.v (.string s)] (fun x=>x=DB r):=by
 refine does_zy (X:=⟨Tryz.prog,tt,Tryz.f139.ntmps, [], [], [], [], [], []⟩) pok _ Tryz.func139 rfl rfl (Nat.le_of_ble_eq_true rfl) ?_
 obtain⟨hg,hm⟩:=gd_some hm
 obtain⟨by1,hy,hm⟩:=bd_some hm
 refine⟨⟨5, .string,by kernel_rfl,by kernel_rfl,by kernel_rfl⟩,hg,_,_,bytesD_lst (fun _=>rfl) hy, ?_⟩
 clear hy
 obtain⟨ev20,he,hk21⟩:=bd_some hm
 refine LoopY.ofL (m_depot_isText_L1 by1) (fun v7=>⟨[(0, .v (.string s)),(6,lD 1 by1 cK_u8),(7,DI (by1.length:Int)),(8,DI v7)], [],0⟩) 0 (SubY.of 0 rfl ⟨tR rfl,tR rfl,tR rfl,tR rfl,trivial⟩ trivial) he ?_
 rintro fu22 v7 b hm hi23
 revert hm
 refine VIf.b (fun h24 hm=> ?_) (fun h24 hm=> ?_)
 obtain⟨e25,hx26,hm⟩:=bd_some hm
 refine⟨_,el_idx (fun _=>rfl) hx26, ?_⟩
 revert hm
 refine VIf.b (fun h27 hm=> ?_) (fun h27 hm=> ?_)
 cases hm
 cases hi23
 have hm:=hk21
 cases hm
 exact RetY.le (leD.refl _)
 revert hm
 refine VIf.b (fun h28 hm=> ?_) (fun h28 hm=> ?_)
 cases hm
 cases hi23
 have hm:=hk21
 cases hm
 exact RetY.le (leD.refl _)
 cases hm
 exact⟨(_,(W (v7+1))),SubY.of 0 rfl ⟨tR rfl,tR rfl,tR rfl,tR rfl,trivial⟩ trivial,hi23,Nat.lt_succ_self _⟩
 cases hm
 cases hi23
 have hm:=hk21
 cases hm
 exact RetY.le (leD.refl _)
def m_depot_isRecord (r_:TRecord):Option Bool:=
 Option.bind (m_depot_isItem r_.At) fun x1=>
 if(!x1)=true then
  some false
 else
  Option.bind (m_depot_within r_.Kind 0 60) fun x4=>
  if(!x4)=true then
   some false
  else
   Option.bind (m_depot_isNight r_.Day) fun x7=>
   if(!x7)=true then
    some false
   else
    Option.bind (m_depot_isNight r_.Known) fun x10=>
    if(!x10)=true then
     some false
    else
     Option.bind (m_depot_isText r_.Text) fun x13=>
     if(!x13)=true then
      some false
     else
      if(r_.Kind==0)=true then
       if(r_.Day==0)=true then
        if(r_.Text.toList==(⟨#[]⟩:ByteArray).toList)=true then
         Option.bind (m_depot_isItem r_.Of) fun x19=>
         if x19=true then
          if(r_.Of.Depot==r_.At.Depot)=true then
           some (decide (r_.Of.No<r_.At.No))
          else
           some false
         else
          some false
        else
         some false
       else
        some false
      else
       some ((r_.Of.Depot==0)&&(r_.Of.No==0))
theorem d_depot_isRecord (r_:TRecord) (r:Bool) (hm:m_depot_isRecord r_=some r):Does Tryz.prog 91 [.agg (TRecord.c r_)] (fun x=>x=DB r):=by
 refine does_zy (X:=⟨Tryz.prog,tt,Tryz.f91.ntmps, [], [], [], [], [], []⟩) pok _ Tryz.func91 rfl rfl (Nat.le_of_ble_eq_true rfl) ?_
 obtain⟨x1,hx2,hm⟩:=bd_some hm
 refine CallY.det (d_depot_isItem r_.At _ hx2) ?_
 revert hm
 refine VIf.b (fun h3 hm=> ?_) (fun h3 hm=> ?_)
 cases hm
 exact RetY.le (leD.refl _)
 obtain⟨x4,hx5,hm⟩:=bd_some hm
 refine CallY.det (d_depot_within r_.Kind 0 60 _ hx5) ?_
 revert hm
 refine VIf.b (fun h6 hm=> ?_) (fun h6 hm=> ?_)
 cases hm
 exact RetY.le (leD.refl _)
 obtain⟨x7,hx8,hm⟩:=bd_some hm
 refine CallY.det (d_depot_isNight r_.Day _ hx8) ?_
 revert hm
 refine VIf.b (fun h9 hm=> ?_) (fun h9 hm=> ?_)
 cases hm
 exact RetY.le (leD.refl _)
 obtain⟨x10,hx11,hm⟩:=bd_some hm
 refine CallY.det (d_depot_isNight r_.Known _ hx11) ?_
 revert hm
 refine VIf.b (fun h12 hm=> ?_) (fun h12 hm=> ?_)
 cases hm
 exact RetY.le (leD.refl _)
 obtain⟨x13,hx14,hm⟩:=bd_some hm
 refine CallY.det (d_depot_isText r_.Text _ hx14) ?_
 revert hm
 refine VIf.b (fun h15 hm=> ?_) (fun h15 hm=> ?_)
 cases hm
 exact RetY.le (leD.refl _)
 revert hm
 refine VIf.b (fun h16 hm=> ?_) (fun h16 hm=> ?_)
 revert hm
 refine VIf.b (fun h17 hm=> ?_) (fun h17 hm=> ?_)
 revert hm
 refine VIf.b (fun h18 hm=> ?_) (fun h18 hm=> ?_)
 obtain⟨x19,hx20,hm⟩:=bd_some hm
 refine CallY.det (d_depot_isItem r_.Of _ hx20) ?_
 revert hm
 refine VIf.b (fun h21 hm=> ?_) (fun h21 hm=> ?_)
 revert hm
 refine VIf.b (fun h22 hm=> ?_) (fun h22 hm=> ?_)
 cases hm
 exact RetY.le (leD.refl _)
 cases hm
 exact RetY.le (leD.refl _)
 cases hm
 exact RetY.le (leD.refl _)
 cases hm
 exact RetY.le (leD.refl _)
 cases hm
 exact RetY.le (leD.refl _)
 cases hm
 exact RetY.le (leD.refl _)
def m_internal_stringslite_Index (s sep:ByteArray):Option Int:=gd (sep.size=1) (some (Lib.indexByte s.data.toList (sep.data.toList.headD 0)))
theorem d_internal_stringslite_Index (s sep:ByteArray) (r:Int) (hm:m_internal_stringslite_Index s sep=some r):Does Tryz.prog 190 [.v (.string s), .v (.string sep)] (fun x=>x=DI r):=by
 obtain⟨hg,hm⟩:=gd_some hm
 cases hm
 exact does_index1s lay_index s sep hg
def m_internal_stringslite_Cut (s:ByteArray) (sep:ByteArray):Option (ByteArray×ByteArray×Bool):=
 Option.bind (m_internal_stringslite_Index s sep) fun x1=>
 if(decide (x1≥0))=true then
  gd ((0≤x1∧x1≤(s.size:Int)))<|
  gd ((0≤(W (x1+(sep.size:Int)))∧(W (x1+(sep.size:Int)))≤(s.size:Int)))<|
  some ((s.extract 0 ((x1).toNat)),(s.extract (((W (x1+(sep.size:Int)))).toNat) s.size),true)
 else
  some (s,(⟨#[]⟩:ByteArray),false)
theorem d_internal_stringslite_Cut (s:ByteArray) (sep:ByteArray) (r:(ByteArray×ByteArray×Bool)) (hm:m_internal_stringslite_Cut s sep=some r):Does Tryz.prog 172 [.v (.string s), .v (.string sep)] (fun x=>x= .tup [.v (.string r.1), .v (.string r.2.1),DB r.2.2]):=by
 refine does_zy (X:=⟨Tryz.prog,tt,Tryz.f172.ntmps,pl172, [], [], [], [], []⟩) pok _ Tryz.func172 rfl rfl (Nat.le_of_ble_eq_true rfl) ?_
 obtain⟨x1,hx2,hm⟩:=bd_some hm
 refine CallY.det (d_internal_stringslite_Index s sep _ hx2) ?_
 revert hm
 refine VIf.b (fun h3 hm=> ?_) (fun h3 hm=> ?_)
 refine⟨rfl, ?_⟩
 obtain⟨hg,hm⟩:=gd_some hm
 refine⟨hg, ?_⟩
 obtain⟨hg,hm⟩:=gd_some hm
 refine⟨hg, ?_⟩
 cases hm
 exact RetY.le (leD.refl _)
 cases hm
 exact RetY.le (leD.refl _)
def m_strings_Cut (s:ByteArray) (sep:ByteArray):Option (ByteArray×ByteArray×Bool):=
 Option.bind (m_internal_stringslite_Cut s sep) fun⟨x1,x2,x3⟩=>
 some (x1,x2,x3)
theorem d_strings_Cut (s:ByteArray) (sep:ByteArray) (r:(ByteArray×ByteArray×Bool)) (hm:m_strings_Cut s sep=some r):Does Tryz.prog 157 [.v (.string s), .v (.string sep)] (fun x=>x= .tup [.v (.string r.1), .v (.string r.2.1),DB r.2.2]):=by
 refine does_zy (X:=⟨Tryz.prog,tt,Tryz.f157.ntmps, [], [], [], [], [], []⟩) pok _ Tryz.func157 rfl rfl (Nat.le_of_ble_eq_true rfl) ?_
 obtain⟨⟨x1,x2,x3⟩,hx4,hm⟩:=bd_some hm
 refine CallY.det (d_internal_stringslite_Cut s sep _ hx4) ?_
 cases hm
 exact RetY.le (leD.refl _)
end Go.Proofs.YtggdlgclohnbaaaGreatDoor
