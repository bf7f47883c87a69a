/- Functions of the program as pure Lean functions, and that calls do what these say. Printed by a program out of the given form. -/
import Derived.Test.YtejkiefdjcfapaaGreatDoorH1
set_option linter.unusedVariables false
set_option linter.unusedSimpArgs false
namespace Go.Proofs.YtejkiefdjcfapaaGreatDoor
open Go Go.RowKit Go.Sx
set_option maxRecDepth 100000
set_option maxHeartbeats 20000000
def m_bylaw_in (n:Int) (low:Int) (high:Int):Option Bool:=
 if(decide (low≤n))=true then
  some (decide (n≤high))
 else
  some false
theorem d_bylaw_in (n:Int) (low:Int) (high:Int) (r:Bool) (hm:m_bylaw_in n low high=some r):Does Tryz.prog 60 [DI n,DI low,DI high] (fun x=>x=DB r):=by
 refine does_zy (X:=⟨Tryz.prog,tt,Tryz.f60.ntmps, [], [], [], [], [], []⟩) pok _ Tryz.func60 rfl rfl (Nat.le_of_ble_eq_true rfl) ?_;revert hm;refine VIf.b (fun h1 hm=> ?_) (fun h1 hm=> ?_);cases hm;exact RetY.le (leD.refl _);cases hm;exact RetY.le (leD.refl _)
def m_bylaw_isNight (n:Int):Option Bool:=
 Option.bind (m_bylaw_in n 0 100000) fun x1=>
 some x1
theorem d_bylaw_isNight (n:Int) (r:Bool) (hm:m_bylaw_isNight n=some r):Does Tryz.prog 68 [DI n] (fun x=>x=DB r):=by
 refine does_zy (X:=⟨Tryz.prog,tt,Tryz.f68.ntmps, [], [], [], [], [], []⟩) pok _ Tryz.func68 rfl rfl (Nat.le_of_ble_eq_true rfl) ?_;obtain⟨x1,hx2,hm⟩:=bd_some hm;refine CallY.det (d_bylaw_in n 0 100000 _ hx2) ?_;cases hm;exact RetY.le (leD.refl _)
def m_bylaw_isRange (r_:TRange) (high:Int):Option Bool:=
 if(decide (0≤r_.Lo))=true then
  if(decide (r_.Lo≤r_.Hi))=true then
   some (decide (r_.Hi≤high))
  else
   some false
 else
  some false
theorem d_bylaw_isRange (r_:TRange) (high:Int) (r:Bool) (hm:m_bylaw_isRange r_ high=some r):Does Tryz.prog 69 [.agg (TRange.c r_),DI high] (fun x=>x=DB r):=by
 refine does_zy (X:=⟨Tryz.prog,tt,Tryz.f69.ntmps, [], [], [], [], [], []⟩) pok _ Tryz.func69 rfl rfl (Nat.le_of_ble_eq_true rfl) ?_;revert hm;refine VIf.b (fun h1 hm=> ?_) (fun h1 hm=> ?_);revert hm;refine VIf.b (fun h2 hm=> ?_) (fun h2 hm=> ?_);cases hm;exact RetY.le (leD.refl _);cases hm;exact RetY.le (leD.refl _);cases hm;exact RetY.le (leD.refl _)
def m_bylaw_CheckVersion (v:TVersion):Option Int:=
 Option.bind (m_bylaw_in v.Source 1 99999) fun x1=>
 if(!x1)=true then
  some 10
 else
  Option.bind (m_bylaw_in v.Class 1 9) fun x4=>
  if(!x4)=true then
   some 10
  else
   Option.bind (m_bylaw_isNight v.From) fun x7=>
   if(!x7)=true then
    some 10
   else
    Option.bind (m_bylaw_isRange v.On 600) fun x10=>
    if(!x10)=true then
     some 10
    else
     Option.bind (m_bylaw_isRange v.Off 600) fun x13=>
     if(!x13)=true then
      some 10
     else
      Option.bind (m_bylaw_in v.Moon 0 1001) fun x16=>
      if(!x16)=true then
       some 10
      else
       Option.bind (m_bylaw_in v.Fog 0 600) fun x19=>
       if(!x19)=true then
        some 10
       else
        Option.bind (m_bylaw_isNight v.Known) fun x22=>
        if(!x22)=true then
         some 10
        else
         if(v.Until !=0)=true then
          Option.bind (m_bylaw_in v.Until (W (v.Known+1)) 100000) fun x26=>
          if(!x26)=true then
           some 10
          else
           some 0
         else
          some 0
theorem d_bylaw_CheckVersion (v:TVersion) (r:Int) (hm:m_bylaw_CheckVersion v=some r):Does Tryz.prog 32 [.agg (TVersion.c v)] (fun x=>x=DI r):=by
 refine does_zy (X:=⟨Tryz.prog,tt,Tryz.f32.ntmps, [], [], [], [], [], []⟩) pok _ Tryz.func32 rfl rfl (Nat.le_of_ble_eq_true rfl) ?_;obtain⟨x1,hx2,hm⟩:=bd_some hm;refine CallY.det (d_bylaw_in v.Source 1 99999 _ hx2) ?_;revert hm;refine VIf.b (fun h3 hm=> ?_) (fun h3 hm=> ?_);cases hm;exact RetY.le (leD.refl _);obtain⟨x4,hx5,hm⟩:=bd_some hm;refine CallY.det (d_bylaw_in v.Class 1 9 _ hx5) ?_;revert hm;refine VIf.b (fun h6 hm=> ?_) (fun h6 hm=> ?_);cases hm;exact RetY.le (leD.refl _);obtain⟨x7,hx8,hm⟩:=bd_some hm;refine CallY.det (d_bylaw_isNight v.From _ hx8) ?_;revert hm;refine VIf.b (fun h9 hm=> ?_) (fun h9 hm=> ?_);cases hm;exact RetY.le (leD.refl _);obtain⟨x10,hx11,hm⟩:=bd_some hm;refine CallY.det (d_bylaw_isRange v.On 600 _ hx11) ?_;revert hm;refine VIf.b (fun h12 hm=> ?_) (fun h12 hm=> ?_);cases hm;exact RetY.le (leD.refl _);obtain⟨x13,hx14,hm⟩:=bd_some hm;refine CallY.det (d_bylaw_isRange v.Off 600 _ hx14) ?_;revert hm;refine VIf.b (fun h15 hm=> ?_) (fun h15 hm=> ?_);cases hm;exact RetY.le (leD.refl _);obtain⟨x16,hx17,hm⟩:=bd_some hm;refine CallY.det (d_bylaw_in v.Moon 0 1001 _ hx17) ?_;revert hm;refine VIf.b (fun h18 hm=> ?_) (fun h18 hm=> ?_);cases hm;exact RetY.le (leD.refl _);obtain⟨x19,hx20,hm⟩:=bd_some hm;refine CallY.det (d_bylaw_in v.Fog 0 600 _ hx20) ?_;revert hm;refine VIf.b (fun h21 hm=> ?_) (fun h21 hm=> ?_);cases hm;exact RetY.le (leD.refl _);obtain⟨x22,hx23,hm⟩:=bd_some hm;refine CallY.det (d_bylaw_isNight v.Known _ hx23) ?_;revert hm;refine VIf.b (fun h24 hm=> ?_) (fun h24 hm=> ?_);cases hm;exact RetY.le (leD.refl _);revert hm;refine VIf.b (fun h25 hm=> ?_) (fun h25 hm=> ?_);obtain⟨x26,hx27,hm⟩:=bd_some hm;refine CallY.det (d_bylaw_in v.Until (W (v.Known+1)) 100000 _ hx27) ?_;revert hm;refine VIf.b (fun h28 hm=> ?_) (fun h28 hm=> ?_);cases hm;exact RetY.le (leD.refl _);cases hm;exact RetY.le (leD.refl _);cases hm;exact RetY.le (leD.refl _)
def m_bylaw_sourceOf (v:TVersion):Option Int:=
 some v.Source
theorem d_bylaw_sourceOf (v:TVersion) (r:Int) (hm:m_bylaw_sourceOf v=some r):Does Tryz.prog 33 [.agg (TVersion.c v)] (fun x=>x=DI r):=by
 refine does_zy (X:=⟨Tryz.prog,tt,Tryz.f33.ntmps, [], [], [], [], [], []⟩) pok _ Tryz.func33 rfl rfl (Nat.le_of_ble_eq_true rfl) ?_;cases hm;exact RetY.le (leD.refl _)
def m_bylaw_CheckStreet (s:TStreet):Option Int:=
 Option.bind (m_bylaw_in s.Id 1 99) fun x1=>
 if(!x1)=true then
  some 11
 else
  Option.bind (m_bylaw_in s.Class 1 9) fun x4=>
  if(!x4)=true then
   some 11
  else
   Option.bind (m_bylaw_in s.District 1 9) fun x7=>
   if(!x7)=true then
    some 11
   else
    Option.bind (m_bylaw_in s.First 1 999) fun x10=>
    if(!x10)=true then
     some 11
    else
     Option.bind (m_bylaw_in s.Many 1 200) fun x13=>
     if(!x13)=true then
      some 11
     else
      if(decide ((W ((W (s.First+s.Many))-1))>999))=true then
       some 11
      else
       some 0
theorem d_bylaw_CheckStreet (s:TStreet) (r:Int) (hm:m_bylaw_CheckStreet s=some r):Does Tryz.prog 35 [.agg (TStreet.c s)] (fun x=>x=DI r):=by
 refine does_zy (X:=⟨Tryz.prog,tt,Tryz.f35.ntmps, [], [], [], [], [], []⟩) pok _ Tryz.func35 rfl rfl (Nat.le_of_ble_eq_true rfl) ?_;obtain⟨x1,hx2,hm⟩:=bd_some hm;refine CallY.det (d_bylaw_in s.Id 1 99 _ hx2) ?_;revert hm;refine VIf.b (fun h3 hm=> ?_) (fun h3 hm=> ?_);cases hm;exact RetY.le (leD.refl _);obtain⟨x4,hx5,hm⟩:=bd_some hm;refine CallY.det (d_bylaw_in s.Class 1 9 _ hx5) ?_;revert hm;refine VIf.b (fun h6 hm=> ?_) (fun h6 hm=> ?_);cases hm;exact RetY.le (leD.refl _);obtain⟨x7,hx8,hm⟩:=bd_some hm;refine CallY.det (d_bylaw_in s.District 1 9 _ hx8) ?_;revert hm;refine VIf.b (fun h9 hm=> ?_) (fun h9 hm=> ?_);cases hm;exact RetY.le (leD.refl _);obtain⟨x10,hx11,hm⟩:=bd_some hm;refine CallY.det (d_bylaw_in s.First 1 999 _ hx11) ?_;revert hm;refine VIf.b (fun h12 hm=> ?_) (fun h12 hm=> ?_);cases hm;exact RetY.le (leD.refl _);obtain⟨x13,hx14,hm⟩:=bd_some hm;refine CallY.det (d_bylaw_in s.Many 1 200 _ hx14) ?_;revert hm;refine VIf.b (fun h15 hm=> ?_) (fun h15 hm=> ?_);cases hm;exact RetY.le (leD.refl _);revert hm;refine VIf.b (fun h16 hm=> ?_) (fun h16 hm=> ?_);cases hm;exact RetY.le (leD.refl _);cases hm;exact RetY.le (leD.refl _)
def m_bylaw_idOf (s:TStreet):Option Int:=
 some s.Id
theorem d_bylaw_idOf (s:TStreet) (r:Int) (hm:m_bylaw_idOf s=some r):Does Tryz.prog 36 [.agg (TStreet.c s)] (fun x=>x=DI r):=by
 refine does_zy (X:=⟨Tryz.prog,tt,Tryz.f36.ntmps, [], [], [], [], [], []⟩) pok _ Tryz.func36 rfl rfl (Nat.le_of_ble_eq_true rfl) ?_;cases hm;exact RetY.le (leD.refl _)
def m_bylaw_has (s:TStreet) (lamp:Int):Option Bool:=
 Option.bind (m_bylaw_in lamp s.First (W ((W (s.First+s.Many))-1))) fun x1=>
 some x1
theorem d_bylaw_has (s:TStreet) (lamp:Int) (r:Bool) (hm:m_bylaw_has s lamp=some r):Does Tryz.prog 37 [.agg (TStreet.c s),DI lamp] (fun x=>x=DB r):=by
 refine does_zy (X:=⟨Tryz.prog,tt,Tryz.f37.ntmps, [], [], [], [], [], []⟩) pok _ Tryz.func37 rfl rfl (Nat.le_of_ble_eq_true rfl) ?_;obtain⟨x1,hx2,hm⟩:=bd_some hm;refine CallY.det (d_bylaw_in lamp s.First (W ((W (s.First+s.Many))-1)) _ hx2) ?_;cases hm;exact RetY.le (leD.refl _)
def m_bylaw_areAll_api_Version__bylaw_CheckVersion__bylaw_sourceOf_L1 (l:(List TVersion)):Int→Option (Sum Int (Sum Int Bool)):=fun v7=>
 if(decide (v7<(l.length:Int)))=true then
  Option.bind (idx l v7) fun e23=>
  Option.bind (m_bylaw_CheckVersion e23) fun x25=>
  if(x25 !=0)=true then
   some (.inr (.inr false))
  else
   if(decide (v7>0))=true then
    Option.bind (idx l (W (v7-1))) fun e29=>
    Option.bind (m_bylaw_sourceOf e29) fun x31=>
    Option.bind (m_bylaw_sourceOf e23) fun x33=>
    if(decide (x31≥x33))=true then
     some (.inr (.inr false))
    else
     some (.inl (W (v7+1)))
   else
    some (.inl (W (v7+1)))
 else
  some (.inr (.inl v7))
def m_bylaw_areAll_api_Version__bylaw_CheckVersion__bylaw_sourceOf (l:(List TVersion)) (most:Int):Option Bool:=
 Option.bind (loopF (m_bylaw_areAll_api_Version__bylaw_CheckVersion__bylaw_sourceOf_L1 l) 0) fun e=>
 match e with
 | .inl v36=>
  some (decide ((l.length:Int)≤most))
 | .inr rr37=>
  some rr37
theorem d_bylaw_areAll_api_Version__bylaw_CheckVersion__bylaw_sourceOf (l:(List TVersion)) (most:Int) (r:Bool) (hm:m_bylaw_areAll_api_Version__bylaw_CheckVersion__bylaw_sourceOf l most=some r):Does Tryz.prog 31 [lD 11 l TVersion.c,DI most, .fn 32 [] [], .fn 33 [] []] (fun x=>x=DB r):=by
 refine does_zy (X:=⟨Tryz.prog,tt,Tryz.f31.ntmps,pl31, [], [], [], [], []⟩) pok _ Tryz.func31 rfl rfl (Nat.le_of_ble_eq_true rfl) ?_;obtain⟨ev38,he,hk39⟩:=bd_some hm;refine LoopY.ofL (m_bylaw_areAll_api_Version__bylaw_CheckVersion__bylaw_sourceOf_L1 l) (fun v7=>⟨[(0,lD 11 l TVersion.c),(1,DI most),(2, .fn 32 [] []),(3, .fn 33 [] []),(11,lD 11 l TVersion.c),(12,DI (l.length:Int)),(13,DI v7)], [],0⟩) 0 (SubY.of 0 rfl ⟨tR rfl,tR rfl,tR rfl,tR rfl,tR rfl,tR rfl,tR rfl,trivial⟩ trivial) he ?_;rintro fu40 v7 b hm hi41;revert hm;refine VIf.b (fun h42 hm=> ?_) (fun h42 hm=> ?_);obtain⟨e43,hx44,hm⟩:=bd_some hm;refine⟨_,el_idx (fun _=>rfl) hx44, ?_⟩;refine⟨rfl, ?_⟩;obtain⟨x45,hx46,hm⟩:=bd_some hm;refine CallY.det (d_bylaw_CheckVersion e43 _ hx46) ?_;revert hm;refine VIf.b (fun h47 hm=> ?_) (fun h47 hm=> ?_);cases hm;cases hi41;have hm:=hk39;cases hm;exact RetY.le (leD.refl _);revert hm;refine VIf.b (fun h48 hm=> ?_) (fun h48 hm=> ?_);obtain⟨e49,hx50,hm⟩:=bd_some hm;refine⟨_,el_idx (fun _=>rfl) hx50, ?_⟩;obtain⟨x51,hx52,hm⟩:=bd_some hm;refine CallY.det (d_bylaw_sourceOf e49 _ hx52) ?_;obtain⟨x53,hx54,hm⟩:=bd_some hm;refine CallY.det (d_bylaw_sourceOf e43 _ hx54) ?_;revert hm;refine VIf.b (fun h55 hm=> ?_) (fun h55 hm=> ?_);cases hm;cases hi41;have hm:=hk39;cases hm;exact RetY.le (leD.refl _);cases hm;exact⟨(_,(W (v7+1))),SubY.of 0 rfl ⟨tR rfl,tR rfl,tR rfl,tR rfl,tR rfl,tR rfl,tR rfl,trivial⟩ trivial,hi41,Nat.lt_succ_self _⟩;cases hm;exact⟨(_,(W (v7+1))),SubY.of 0 rfl ⟨tR rfl,tR rfl,tR rfl,tR rfl,tR rfl,tR rfl,tR rfl,trivial⟩ trivial,hi41,Nat.lt_succ_self _⟩;cases hm;cases hi41;have hm:=hk39;cases hm;exact RetY.le (leD.refl _)
def m_bylaw_areAll_api_Street__bylaw_CheckStreet__bylaw_idOf_L1 (l:(List TStreet)):Int→Option (Sum Int (Sum Int Bool)):=fun v7=>
 if(decide (v7<(l.length:Int)))=true then
  Option.bind (idx l v7) fun e23=>
  Option.bind (m_bylaw_CheckStreet e23) fun x25=>
  if(x25 !=0)=true then
   some (.inr (.inr false))
  else
   if(decide (v7>0))=true then
    Option.bind (idx l (W (v7-1))) fun e29=>
    Option.bind (m_bylaw_idOf e29) fun x31=>
    Option.bind (m_bylaw_idOf e23) fun x33=>
    if(decide (x31≥x33))=true then
     some (.inr (.inr false))
    else
     some (.inl (W (v7+1)))
   else
    some (.inl (W (v7+1)))
 else
  some (.inr (.inl v7))
def m_bylaw_areAll_api_Street__bylaw_CheckStreet__bylaw_idOf (l:(List TStreet)) (most:Int):Option Bool:=
 Option.bind (loopF (m_bylaw_areAll_api_Street__bylaw_CheckStreet__bylaw_idOf_L1 l) 0) fun e=>
 match e with
 | .inl v36=>
  some (decide ((l.length:Int)≤most))
 | .inr rr37=>
  some rr37
theorem d_bylaw_areAll_api_Street__bylaw_CheckStreet__bylaw_idOf (l:(List TStreet)) (most:Int) (r:Bool) (hm:m_bylaw_areAll_api_Street__bylaw_CheckStreet__bylaw_idOf l most=some r):Does Tryz.prog 34 [lD 5 l TStreet.c,DI most, .fn 35 [] [], .fn 36 [] []] (fun x=>x=DB r):=by
 refine does_zy (X:=⟨Tryz.prog,tt,Tryz.f34.ntmps,pl34, [], [], [], [], []⟩) pok _ Tryz.func34 rfl rfl (Nat.le_of_ble_eq_true rfl) ?_;obtain⟨ev38,he,hk39⟩:=bd_some hm;refine LoopY.ofL (m_bylaw_areAll_api_Street__bylaw_CheckStreet__bylaw_idOf_L1 l) (fun v7=>⟨[(0,lD 5 l TStreet.c),(1,DI most),(2, .fn 35 [] []),(3, .fn 36 [] []),(11,lD 5 l TStreet.c),(12,DI (l.length:Int)),(13,DI v7)], [],0⟩) 0 (SubY.of 0 rfl ⟨tR rfl,tR rfl,tR rfl,tR rfl,tR rfl,tR rfl,tR rfl,trivial⟩ trivial) he ?_;rintro fu40 v7 b hm hi41;revert hm;refine VIf.b (fun h42 hm=> ?_) (fun h42 hm=> ?_);obtain⟨e43,hx44,hm⟩:=bd_some hm;refine⟨_,el_idx (fun _=>rfl) hx44, ?_⟩;refine⟨rfl, ?_⟩;obtain⟨x45,hx46,hm⟩:=bd_some hm;refine CallY.det (d_bylaw_CheckStreet e43 _ hx46) ?_;revert hm;refine VIf.b (fun h47 hm=> ?_) (fun h47 hm=> ?_);cases hm;cases hi41;have hm:=hk39;cases hm;exact RetY.le (leD.refl _);revert hm;refine VIf.b (fun h48 hm=> ?_) (fun h48 hm=> ?_);obtain⟨e49,hx50,hm⟩:=bd_some hm;refine⟨_,el_idx (fun _=>rfl) hx50, ?_⟩;obtain⟨x51,hx52,hm⟩:=bd_some hm;refine CallY.det (d_bylaw_idOf e49 _ hx52) ?_;obtain⟨x53,hx54,hm⟩:=bd_some hm;refine CallY.det (d_bylaw_idOf e43 _ hx54) ?_;revert hm;refine VIf.b (fun h55 hm=> ?_) (fun h55 hm=> ?_);cases hm;cases hi41;have hm:=hk39;cases hm;exact RetY.le (leD.refl _);cases hm;exact⟨(_,(W (v7+1))),SubY.of 0 rfl ⟨tR rfl,tR rfl,tR rfl,tR rfl,tR rfl,tR rfl,tR rfl,trivial⟩ trivial,hi41,Nat.lt_succ_self _⟩;cases hm;exact⟨(_,(W (v7+1))),SubY.of 0 rfl ⟨tR rfl,tR rfl,tR rfl,tR rfl,tR rfl,tR rfl,tR rfl,trivial⟩ trivial,hi41,Nat.lt_succ_self _⟩;cases hm;cases hi41;have hm:=hk39;cases hm;exact RetY.le (leD.refl _)
def m_bylaw_Check_L4 (e77:TStreet) (sl79:(List TStreet)):Int→Option (Sum Int (Sum Int Int)):=fun v89=>
 if(decide (v89<(sl79.length:Int)))=true then
  Option.bind (idx sl79 v89) fun e100=>
  Option.bind (m_bylaw_has e77 e100.First) fun x102=>
  if x102=true then
   some (.inr (.inr 13))
  else
   Option.bind (m_bylaw_has e100 e77.First) fun x105=>
   if x105=true then
    some (.inr (.inr 13))
   else
    some (.inl (W (v89+1)))
 else
  some (.inr (.inl v89))
def m_bylaw_Check_L3 (b_:TBylaw):Int→Option (Sum Int (Sum Int Int)):=fun v41=>
 if(decide (v41<(b_.Streets.length:Int)))=true then
  Option.bind (idx b_.Streets v41) fun e77=>
  gd ((0≤v41∧v41≤(b_.Streets.length:Int)))<|
  Option.bind (some (sub b_.Streets 0 (v41).toNat)) fun sl79=>
  Option.bind (loopF (m_bylaw_Check_L4 e77 sl79) 0) fun e=>
  match e with
  | .inl v108=>
   some (.inl (W (v41+1)))
  | .inr rr109=>
   some (.inr (.inr rr109))
 else
  some (.inr (.inl v41))
def m_bylaw_Check (b_:TBylaw):Option Int:=
 Option.bind (m_bylaw_areAll_api_Version__bylaw_CheckVersion__bylaw_sourceOf b_.Versions 60) fun x1=>
 if(!x1)=true then
  some 13
 else
  Option.bind (m_bylaw_areAll_api_Street__bylaw_CheckStreet__bylaw_idOf b_.Streets 20) fun x4=>
  if(!x4)=true then
   some 13
  else
   Option.bind (loopF (m_bylaw_Check_L3 b_) 0) fun e=>
   match e with
   | .inl v123=>
    some 0
   | .inr rr124=>
    some rr124
theorem d_bylaw_Check (b_:TBylaw) (r:Int) (hm:m_bylaw_Check b_=some r):Does Tryz.prog 10 [.agg (TBylaw.c b_)] (fun x=>x=DI r):=by
 refine does_zy (X:=⟨Tryz.prog,tt,Tryz.f10.ntmps, [], [], [], [], [], []⟩) pok _ Tryz.func10 rfl rfl (Nat.le_of_ble_eq_true rfl) ?_;obtain⟨x1,hx2,hm⟩:=bd_some hm;refine CallY.det (d_bylaw_areAll_api_Version__bylaw_CheckVersion__bylaw_sourceOf b_.Versions 60 _ hx2) ?_;revert hm;refine VIf.b (fun h3 hm=> ?_) (fun h3 hm=> ?_);cases hm;exact RetY.le (leD.refl _);obtain⟨x4,hx5,hm⟩:=bd_some hm;refine CallY.det (d_bylaw_areAll_api_Street__bylaw_CheckStreet__bylaw_idOf b_.Streets 20 _ hx5) ?_;revert hm;refine VIf.b (fun h6 hm=> ?_) (fun h6 hm=> ?_);cases hm;exact RetY.le (leD.refl _);obtain⟨ev125,he,hk126⟩:=bd_some hm;refine LoopY.ofL (m_bylaw_Check_L3 b_) (fun v41=>⟨[(1, .own 0 0),(18,lD 5 b_.Streets TStreet.c),(19,DI (b_.Streets.length:Int)),(20,DI v41)], [(0, .blk [lD 11 b_.Versions TVersion.c,lD 5 b_.Streets TStreet.c] 25)],1⟩) 0 (SubY.of 1 rfl ⟨tR rfl,tR rfl,tR rfl,tR rfl,trivial⟩ ⟨hR rfl,trivial⟩) he ?_;rintro fu127 v41 b hm hi128;revert hm;refine VIf.b (fun h129 hm=> ?_) (fun h129 hm=> ?_);obtain⟨e130,hx131,hm⟩:=bd_some hm;refine⟨_,el_idx (fun _=>rfl) hx131, ?_⟩;obtain⟨hg,hm⟩:=gd_some hm;obtain⟨sl132,hy,hm⟩:=bd_some hm;refine⟨hg,_,(flat_sub (c:=TStreet.c) (z:=5) (fun _=>rfl) _ _ _).trans (congrArg _ (Option.some.inj hy)), ?_⟩;have hl:sl132.length=(v41).toNat-0:=by rw [←Option.some.inj hy];exact sub_len (by omega)
 rw [←hl];obtain⟨ev163,he,hk164⟩:=bd_some hm;refine LoopY.ofL (m_bylaw_Check_L4 e130 sl132) (fun v142=>⟨[(1, .own 0 0),(4, .own 1 0),(18,lD 5 b_.Streets TStreet.c),(19,DI (b_.Streets.length:Int)),(20,DI v41),(28,lD 5 sl132 TStreet.c),(29,DI (sl132.length:Int)),(30,DI v142)], [(0, .blk [lD 11 b_.Versions TVersion.c,lD 5 b_.Streets TStreet.c] 25),(1, .blk [DI e130.Id,DI e130.Class,DI e130.District,DI e130.First,DI e130.Many] 49)],2⟩) 0 (SubY.of 2 rfl ⟨tR rfl,tR rfl,tR rfl,tR rfl,tR rfl,tR rfl,tR rfl,tR rfl,trivial⟩ ⟨hR rfl,hR rfl,trivial⟩) he ?_;rintro fu165 v142 b hm hi166;revert hm;refine VIf.b (fun h167 hm=> ?_) (fun h167 hm=> ?_);obtain⟨e168,hx169,hm⟩:=bd_some hm;refine⟨_,el_idx (fun _=>rfl) hx169, ?_⟩;obtain⟨x170,hx171,hm⟩:=bd_some hm;refine CallY.det (d_bylaw_has e130 e168.First _ hx171) ?_;revert hm;refine VIf.b (fun h172 hm=> ?_) (fun h172 hm=> ?_);cases hm;cases hi166;have hm:=hk164;cases hm;cases hi128;have hm:=hk126;cases hm;exact RetY.le (leD.refl _);obtain⟨x173,hx174,hm⟩:=bd_some hm;refine CallY.det (d_bylaw_has e168 e130.First _ hx174) ?_;revert hm;refine VIf.b (fun h175 hm=> ?_) (fun h175 hm=> ?_);cases hm;cases hi166;have hm:=hk164;cases hm;cases hi128;have hm:=hk126;cases hm;exact RetY.le (leD.refl _);cases hm;exact⟨(_,(W (v142+1))),SubY.of 2 rfl ⟨tR rfl,tR rfl,tR rfl,tR rfl,tR rfl,tR rfl,tR rfl,tR rfl,trivial⟩ ⟨hR rfl,hR rfl,trivial⟩,hi166,Nat.lt_succ_self _⟩;cases hm;cases hi166;have hm:=hk164;cases hm;exact⟨(_,(W (v41+1))),SubY.of 1 rfl ⟨tR rfl,tR rfl,tR rfl,tR rfl,trivial⟩ ⟨hR rfl,trivial⟩,hi128,Nat.lt_succ_self _⟩;cases hm;cases hi128;have hm:=hk126;cases hm;exact RetY.le (leD.refl _)
theorem d_glpow10:GlobAt Tryz.prog "internal/strconv.uint64pow10" 0:=⟨by kernel_rfl,by kernel_rfl⟩
def m_strconv_Itoa (n:Int):Option ByteArray:=gd (-9223372036854775808≤n∧n≤9223372036854775807) (some (itoaB n))
theorem d_strconv_Itoa (n:Int) (r:ByteArray) (hm:m_strconv_Itoa n=some r):Does Tryz.prog 39 [DI n] (fun x=>x= .v (.string r)):=by
 obtain⟨hg,hm⟩:=gd_some hm;cases hm;exact does_itoaA lay_itoaA d_glpow10 n hg
def m_bylaw_row_L1 (l:(List Int)):(ByteArray×Int)→Option (Sum (ByteArray×Int) (ByteArray×Int)):=fun(word6,v7)=>
 if(decide (v7<(l.length:Int)))=true then
  Option.bind (idx l v7) fun e14=>
  Option.bind (m_strconv_Itoa e14) fun x16=>
  gd ((((⟨#[32]⟩:ByteArray).size+x16.size:Nat):Int)≤9223372036854775807)<|
  gd (((word6.size+((⟨#[32]⟩:ByteArray)++x16).size:Nat):Int)≤9223372036854775807)<|
  some (.inl ((word6++((⟨#[32]⟩:ByteArray)++x16)),(W (v7+1))))
 else
  some (.inr (word6,v7))
def m_bylaw_row (word:ByteArray) (l:(List Int)):Option ByteArray:=
 Option.bind (loopF (m_bylaw_row_L1 l) (word,0)) fun(word18,v19)=>
 gd (((word18.size+(⟨#[10]⟩:ByteArray).size:Nat):Int)≤9223372036854775807)<|
 some (word18++(⟨#[10]⟩:ByteArray))
theorem d_bylaw_row (word:ByteArray) (l:(List Int)) (r:ByteArray) (hm:m_bylaw_row word l=some r):Does Tryz.prog 12 [.v (.string word),lD 1 l cI] (fun x=>x= .v (.string r)):=by
 refine does_zy (X:=⟨Tryz.prog,tt,Tryz.f12.ntmps, [], [], [], [], [], []⟩) pok _ Tryz.func12 rfl rfl (Nat.le_of_ble_eq_true rfl) ?_;obtain⟨ev20,he,hk21⟩:=bd_some hm;refine LoopY.ofL (m_bylaw_row_L1 l) (fun(word6,v7)=>⟨[(0, .v (.string word6)),(7,lD 1 l cI),(8,DI (l.length:Int)),(9,DI v7)], [],0⟩) (word,0) (SubY.of 0 rfl ⟨tR rfl,tR rfl,tR rfl,tR rfl,trivial⟩ trivial) he ?_;rintro fu22 ⟨word6,v7⟩ b hm hi23;revert hm;refine VIf.b (fun h24 hm=> ?_) (fun h24 hm=> ?_);obtain⟨e25,hx26,hm⟩:=bd_some hm;refine⟨_,el_idx (fun _=>rfl) hx26, ?_⟩;obtain⟨x27,hx28,hm⟩:=bd_some hm;refine CallY.det (d_strconv_Itoa e25 _ hx28) ?_;obtain⟨hg,hm⟩:=gd_some hm;refine⟨hg, ?_⟩;obtain⟨hg,hm⟩:=gd_some hm;refine⟨hg, ?_⟩;cases hm;exact⟨(_,((word6++((⟨#[32]⟩:ByteArray)++x27)),(W (v7+1)))),SubY.of 0 rfl ⟨tR rfl,tR rfl,tR rfl,tR rfl,trivial⟩ trivial,hi23,Nat.lt_succ_self _⟩;cases hm;cases hi23;have hm:=hk21;obtain⟨hg,hm⟩:=gd_some hm;refine⟨hg, ?_⟩;cases hm;exact RetY.le (leD.refl _)
def m_internal_stringslite_HasPrefix (s:ByteArray) (prefix_:ByteArray):Option Bool:=
 if(decide ((s.size:Int)≥(prefix_.size:Int)))=true then
  gd ((0≤(prefix_.size:Int)∧(prefix_.size:Int)≤(s.size:Int)))<|
  some ((s.extract 0 (((prefix_.size:Int)).toNat)).toList==prefix_.toList)
 else
  some false
theorem d_internal_stringslite_HasPrefix (s:ByteArray) (prefix_:ByteArray) (r:Bool) (hm:m_internal_stringslite_HasPrefix s prefix_=some r):Does Tryz.prog 98 [.v (.string s), .v (.string prefix_)] (fun x=>x=DB r):=by
 refine does_zy (X:=⟨Tryz.prog,tt,Tryz.f98.ntmps, [], [], [], [], [], []⟩) pok _ Tryz.func98 rfl rfl (Nat.le_of_ble_eq_true rfl) ?_;revert hm;refine VIf.b (fun h1 hm=> ?_) (fun h1 hm=> ?_);obtain⟨hg,hm⟩:=gd_some hm;refine⟨hg, ?_⟩;cases hm;exact RetY.le (leD.refl _);cases hm;exact RetY.le (leD.refl _)
def m_strings_HasPrefix (s:ByteArray) (prefix_:ByteArray):Option Bool:=
 Option.bind (m_internal_stringslite_HasPrefix s prefix_) fun x1=>
 some x1
theorem d_strings_HasPrefix (s:ByteArray) (prefix_:ByteArray) (r:Bool) (hm:m_strings_HasPrefix s prefix_=some r):Does Tryz.prog 77 [.v (.string s), .v (.string prefix_)] (fun x=>x=DB r):=by
 refine does_zy (X:=⟨Tryz.prog,tt,Tryz.f77.ntmps, [], [], [], [], [], []⟩) pok _ Tryz.func77 rfl rfl (Nat.le_of_ble_eq_true rfl) ?_;obtain⟨x1,hx2,hm⟩:=bd_some hm;refine CallY.det (d_internal_stringslite_HasPrefix s prefix_ _ hx2) ?_;cases hm;exact RetY.le (leD.refl _)
def m_bylaw_words_L1 (x4:(List ByteArray)):((List ByteArray)×Int)→Option (Sum ((List ByteArray)×Int) ((List ByteArray)×Int)):=fun(out10,v11)=>
 if(decide (v11<(x4.length:Int)))=true then
  Option.bind (idx x4 v11) fun e17=>
  if(!(e17.toList==(⟨#[]⟩:ByteArray).toList))=true then
   gd ((out10.length+([e17]:List ByteArray).length)*16≤140737488355328∧out10.length+([e17]:List ByteArray).length≤9223372036854775807)<|
   some (.inl ((out10++([e17]:List ByteArray)),(W (v11+1))))
  else
   some (.inl (out10,(W (v11+1))))
 else
  some (.inr (out10,v11))
def m_bylaw_words (line:ByteArray):Option (List ByteArray):=
 Option.bind (m_strings_HasPrefix line (⟨#[35]⟩:ByteArray)) fun x1=>
 if x1=true then
  some []
 else
  Option.bind (m_strings_Split line (⟨#[32]⟩:ByteArray)) fun x4=>
  Option.bind (loopF (m_bylaw_words_L1 x4) ([],0)) fun(out20,v21)=>
  some out20
theorem d_bylaw_words (line:ByteArray) (r:(List ByteArray)) (hm:m_bylaw_words line=some r):Does Tryz.prog 46 [.v (.string line)] (fun x=>x=lD 1 r (fun(x:ByteArray)=> [.v (.string x)])):=by
 refine does_zy (X:=⟨Tryz.prog,tt,Tryz.f46.ntmps, [], [], [], [], [], []⟩) pok _ Tryz.func46 rfl rfl (Nat.le_of_ble_eq_true rfl) ?_;obtain⟨x1,hx2,hm⟩:=bd_some hm;refine CallY.det (d_strings_HasPrefix line ((⟨#[35]⟩:ByteArray)) _ hx2) ?_;revert hm;refine VIf.b (fun h3 hm=> ?_) (fun h3 hm=> ?_);cases hm;exact RetY.le (leD.nil);obtain⟨x4,hx5,hm⟩:=bd_some hm;refine CallY.det (d_strings_Split line ((⟨#[32]⟩:ByteArray)) _ hx5) ?_;obtain⟨ev22,he,hk23⟩:=bd_some hm;refine LoopY.ofL (m_bylaw_words_L1 x4) (fun(out10,v11)=>⟨[(3, .row 0 1),(9,lD 1 x4 (fun(x:ByteArray)=> [.v (.string x)])),(10,DI (x4.length:Int)),(11,DI v11)], [(0,rE 1 out10 (fun(x:ByteArray)=> [.v (.string x)]) 9)],1⟩) ([],0) (SubY.of 0 rfl ⟨tR rfl,tR rfl,tR rfl,tR rfl,trivial⟩ ⟨⟨rfl,rfl⟩,trivial⟩) he ?_;rintro fu24 ⟨out10,v11⟩ b hm hi25;revert hm;refine VIf.b (fun h26 hm=> ?_) (fun h26 hm=> ?_);obtain⟨e27,hx28,hm⟩:=bd_some hm;refine⟨_,el_idx (fun _=>rfl) hx28, ?_⟩;revert hm;refine VIf.b (fun h29 hm=> ?_) (fun h29 hm=> ?_);refine⟨([e27]:List ByteArray).flatMap (fun(x:ByteArray)=> [.v (.string x)]),([e27]:List ByteArray).length,⟨rfl,rfl⟩, ?_⟩;obtain⟨hg,hm⟩:=gd_some hm;refine⟨hg,_,_,flat_app (c:=(fun(x:ByteArray)=> [.v (.string x)])) (l:=(out10:List ByteArray)) (r:=(([e27]:List ByteArray):List ByteArray)), ?_⟩;cases hm;exact⟨(_,((out10++([e27]:List ByteArray)),(W (v11+1)))),SubY.of 1 rfl ⟨tR rfl,tR rfl,tR rfl,tR rfl,trivial⟩ ⟨hW rfl,trivial⟩,hi25,Nat.lt_succ_self _⟩;cases hm;exact⟨(_,(out10,(W (v11+1)))),SubY.of 1 rfl ⟨tR rfl,tR rfl,tR rfl,tR rfl,trivial⟩ ⟨hW rfl,trivial⟩,hi25,Nat.lt_succ_self _⟩;cases hm;cases hi25;have hm:=hk23;cases hm;exact RetY.le (leD.refl _)
end Go.Proofs.YtejkiefdjcfapaaGreatDoor
