/- Functions of the program as pure Lean functions, and that calls do what these say. Printed by a program out of the given form. -/
import Derived.Test.YtejkiefdjcfapaaGreatDoorI1
set_option linter.unusedVariables false
set_option linter.unusedSimpArgs false
namespace Go.Proofs.YtejkiefdjcfapaaGreatDoor
open Go Go.RowKit Go.Sx
set_option maxRecDepth 100000
set_option maxHeartbeats 20000000
def m_R01_Within (n:Int) (lo:Int) (hi:Int):Option Bool:=
 if(decide (lo≤n))=true then
  some (decide (n≤hi))
 else
  some false
theorem d_R01_Within (n:Int) (lo:Int) (hi:Int) (r:Bool) (hm:m_R01_Within n lo hi=some r):Does Tryz.prog 72 [DI n,DI lo,DI hi] (fun x=>x=DB r):=by
 refine does_zy (X:=⟨Tryz.prog,tt,Tryz.f72.ntmps, [], [], [], [], [], []⟩) pok _ Tryz.func72 rfl rfl (Nat.le_of_ble_eq_true rfl) ?_;revert hm;refine VIf.b (fun h1 hm=> ?_) (fun h1 hm=> ?_);cases hm;exact RetY.le (leD.refl _);cases hm;exact RetY.le (leD.refl _)
def m_R01_IsNight (n:Int):Option Bool:=
 Option.bind (m_R01_Within n 0 100000) fun x1=>
 some x1
theorem d_R01_IsNight (n:Int) (r:Bool) (hm:m_R01_IsNight n=some r):Does Tryz.prog 73 [DI n] (fun x=>x=DB r):=by
 refine does_zy (X:=⟨Tryz.prog,tt,Tryz.f73.ntmps, [], [], [], [], [], []⟩) pok _ Tryz.func73 rfl rfl (Nat.le_of_ble_eq_true rfl) ?_;obtain⟨x1,hx2,hm⟩:=bd_some hm;refine CallY.det (d_R01_Within n 0 100000 _ hx2) ?_;cases hm;exact RetY.le (leD.refl _)
def m_R01_IsRange (r_:TRange) (lo:Int) (hi:Int):Option Bool:=
 if(decide (lo≤r_.Lo))=true then
  if(decide (r_.Lo≤r_.Hi))=true then
   some (decide (r_.Hi≤hi))
  else
   some false
 else
  some false
theorem d_R01_IsRange (r_:TRange) (lo:Int) (hi:Int) (r:Bool) (hm:m_R01_IsRange r_ lo hi=some r):Does Tryz.prog 74 [.agg (TRange.c r_),DI lo,DI hi] (fun x=>x=DB r):=by
 refine does_zy (X:=⟨Tryz.prog,tt,Tryz.f74.ntmps, [], [], [], [], [], []⟩) pok _ Tryz.func74 rfl rfl (Nat.le_of_ble_eq_true rfl) ?_;revert hm;refine VIf.b (fun h1 hm=> ?_) (fun h1 hm=> ?_);revert hm;refine VIf.b (fun h2 hm=> ?_) (fun h2 hm=> ?_);cases hm;exact RetY.le (leD.refl _);cases hm;exact RetY.le (leD.refl _);cases hm;exact RetY.le (leD.refl _)
def m_R01_Lasts (known:Int) (until_:Int):Option Bool:=
 Option.bind (m_R01_IsNight known) fun x1=>
 if x1=true then
  if(until_==0)=true then
   some true
  else
   if(decide (known<until_))=true then
    Option.bind (m_R01_IsNight until_) fun x6=>
    some x6
   else
    some false
 else
  some false
theorem d_R01_Lasts (known:Int) (until_:Int) (r:Bool) (hm:m_R01_Lasts known until_=some r):Does Tryz.prog 75 [DI known,DI until_] (fun x=>x=DB r):=by
 refine does_zy (X:=⟨Tryz.prog,tt,Tryz.f75.ntmps, [], [], [], [], [], []⟩) pok _ Tryz.func75 rfl rfl (Nat.le_of_ble_eq_true rfl) ?_;obtain⟨x1,hx2,hm⟩:=bd_some hm;refine CallY.det (d_R01_IsNight known _ hx2) ?_;revert hm;refine VIf.b (fun h3 hm=> ?_) (fun h3 hm=> ?_);revert hm;refine VIf.b (fun h4 hm=> ?_) (fun h4 hm=> ?_);cases hm;exact RetY.le (leD.refl _);revert hm;refine VIf.b (fun h5 hm=> ?_) (fun h5 hm=> ?_);obtain⟨x6,hx7,hm⟩:=bd_some hm;refine CallY.det (d_R01_IsNight until_ _ hx7) ?_;cases hm;exact RetY.le (leD.refl _);cases hm;exact RetY.le (leD.refl _);cases hm;exact RetY.le (leD.refl _)
def m_R01_CheckVersion (v:TVersion):Option Int:=
 Option.bind (m_R01_Within v.Source 1 99999) fun x1=>
 if(!x1)=true then
  some 10
 else
  Option.bind (m_R01_Within v.Class 1 9) fun x4=>
  if(!x4)=true then
   some 10
  else
   Option.bind (m_R01_IsNight v.From) fun x7=>
   if(!x7)=true then
    some 10
   else
    Option.bind (m_R01_IsRange v.On 0 600) fun x10=>
    if(!x10)=true then
     some 10
    else
     Option.bind (m_R01_IsRange v.Off 0 600) fun x13=>
     if(!x13)=true then
      some 10
     else
      Option.bind (m_R01_Within v.Moon 0 1001) fun x16=>
      if(!x16)=true then
       some 10
      else
       Option.bind (m_R01_Within v.Fog 0 600) fun x19=>
       if(!x19)=true then
        some 10
       else
        Option.bind (m_R01_Lasts v.Known v.Until) fun x22=>
        if(!x22)=true then
         some 10
        else
         some 0
theorem d_R01_CheckVersion (v:TVersion) (r:Int) (hm:m_R01_CheckVersion v=some r):Does Tryz.prog 40 [.agg (TVersion.c v)] (fun x=>x=DI r):=by
 refine does_zy (X:=⟨Tryz.prog,tt,Tryz.f40.ntmps, [], [], [], [], [], []⟩) pok _ Tryz.func40 rfl rfl (Nat.le_of_ble_eq_true rfl) ?_;obtain⟨x1,hx2,hm⟩:=bd_some hm;refine CallY.det (d_R01_Within v.Source 1 99999 _ hx2) ?_;revert hm;refine VIf.b (fun h3 hm=> ?_) (fun h3 hm=> ?_);cases hm;exact RetY.le (leD.refl _);obtain⟨x4,hx5,hm⟩:=bd_some hm;refine CallY.det (d_R01_Within v.Class 1 9 _ hx5) ?_;revert hm;refine VIf.b (fun h6 hm=> ?_) (fun h6 hm=> ?_);cases hm;exact RetY.le (leD.refl _);obtain⟨x7,hx8,hm⟩:=bd_some hm;refine CallY.det (d_R01_IsNight v.From _ hx8) ?_;revert hm;refine VIf.b (fun h9 hm=> ?_) (fun h9 hm=> ?_);cases hm;exact RetY.le (leD.refl _);obtain⟨x10,hx11,hm⟩:=bd_some hm;refine CallY.det (d_R01_IsRange v.On 0 600 _ hx11) ?_;revert hm;refine VIf.b (fun h12 hm=> ?_) (fun h12 hm=> ?_);cases hm;exact RetY.le (leD.refl _);obtain⟨x13,hx14,hm⟩:=bd_some hm;refine CallY.det (d_R01_IsRange v.Off 0 600 _ hx14) ?_;revert hm;refine VIf.b (fun h15 hm=> ?_) (fun h15 hm=> ?_);cases hm;exact RetY.le (leD.refl _);obtain⟨x16,hx17,hm⟩:=bd_some hm;refine CallY.det (d_R01_Within v.Moon 0 1001 _ hx17) ?_;revert hm;refine VIf.b (fun h18 hm=> ?_) (fun h18 hm=> ?_);cases hm;exact RetY.le (leD.refl _);obtain⟨x19,hx20,hm⟩:=bd_some hm;refine CallY.det (d_R01_Within v.Fog 0 600 _ hx20) ?_;revert hm;refine VIf.b (fun h21 hm=> ?_) (fun h21 hm=> ?_);cases hm;exact RetY.le (leD.refl _);obtain⟨x22,hx23,hm⟩:=bd_some hm;refine CallY.det (d_R01_Lasts v.Known v.Until _ hx23) ?_;revert hm;refine VIf.b (fun h24 hm=> ?_) (fun h24 hm=> ?_);cases hm;exact RetY.le (leD.refl _);cases hm;exact RetY.le (leD.refl _)
def m_R01_CheckStreet (s:TStreet):Option Int:=
 Option.bind (m_R01_Within s.Id 1 99) fun x1=>
 if(!x1)=true then
  some 11
 else
  Option.bind (m_R01_Within s.Class 1 9) fun x4=>
  if(!x4)=true then
   some 11
  else
   Option.bind (m_R01_Within s.District 1 9) fun x7=>
   if(!x7)=true then
    some 11
   else
    Option.bind (m_R01_Within s.First 1 999) fun x10=>
    if(!x10)=true then
     some 11
    else
     Option.bind (m_R01_Within s.Many 1 200) fun x13=>
     if(!x13)=true then
      some 11
     else
      if(decide ((W ((W (s.First+s.Many))-1))>999))=true then
       some 11
      else
       some 0
theorem d_R01_CheckStreet (s:TStreet) (r:Int) (hm:m_R01_CheckStreet s=some r):Does Tryz.prog 41 [.agg (TStreet.c s)] (fun x=>x=DI r):=by
 refine does_zy (X:=⟨Tryz.prog,tt,Tryz.f41.ntmps, [], [], [], [], [], []⟩) pok _ Tryz.func41 rfl rfl (Nat.le_of_ble_eq_true rfl) ?_;obtain⟨x1,hx2,hm⟩:=bd_some hm;refine CallY.det (d_R01_Within s.Id 1 99 _ hx2) ?_;revert hm;refine VIf.b (fun h3 hm=> ?_) (fun h3 hm=> ?_);cases hm;exact RetY.le (leD.refl _);obtain⟨x4,hx5,hm⟩:=bd_some hm;refine CallY.det (d_R01_Within s.Class 1 9 _ hx5) ?_;revert hm;refine VIf.b (fun h6 hm=> ?_) (fun h6 hm=> ?_);cases hm;exact RetY.le (leD.refl _);obtain⟨x7,hx8,hm⟩:=bd_some hm;refine CallY.det (d_R01_Within s.District 1 9 _ hx8) ?_;revert hm;refine VIf.b (fun h9 hm=> ?_) (fun h9 hm=> ?_);cases hm;exact RetY.le (leD.refl _);obtain⟨x10,hx11,hm⟩:=bd_some hm;refine CallY.det (d_R01_Within s.First 1 999 _ hx11) ?_;revert hm;refine VIf.b (fun h12 hm=> ?_) (fun h12 hm=> ?_);cases hm;exact RetY.le (leD.refl _);obtain⟨x13,hx14,hm⟩:=bd_some hm;refine CallY.det (d_R01_Within s.Many 1 200 _ hx14) ?_;revert hm;refine VIf.b (fun h15 hm=> ?_) (fun h15 hm=> ?_);cases hm;exact RetY.le (leD.refl _);revert hm;refine VIf.b (fun h16 hm=> ?_) (fun h16 hm=> ?_);cases hm;exact RetY.le (leD.refl _);cases hm;exact RetY.le (leD.refl _)
def m_R01_meet (a:TStreet) (b_:TStreet):Option Bool:=
 if(decide (a.First<(W (b_.First+b_.Many))))=true then
  some (decide (b_.First<(W (a.First+a.Many))))
 else
  some false
theorem d_R01_meet (a:TStreet) (b_:TStreet) (r:Bool) (hm:m_R01_meet a b_=some r):Does Tryz.prog 42 [.agg (TStreet.c a), .agg (TStreet.c b_)] (fun x=>x=DB r):=by
 refine does_zy (X:=⟨Tryz.prog,tt,Tryz.f42.ntmps, [], [], [], [], [], []⟩) pok _ Tryz.func42 rfl rfl (Nat.le_of_ble_eq_true rfl) ?_;revert hm;refine VIf.b (fun h1 hm=> ?_) (fun h1 hm=> ?_);cases hm;exact RetY.le (leD.refl _);cases hm;exact RetY.le (leD.refl _)
def m_R01_Check_L1 (b_:TBylaw):Int→Option (Sum Int (Sum Int Int)):=fun v9=>
 if(decide (v9<(b_.Versions.length:Int)))=true then
  Option.bind (idx b_.Versions v9) fun e21=>
  Option.bind (m_R01_CheckVersion e21) fun x23=>
  if(x23 !=0)=true then
   some (.inr (.inr 13))
  else
   if(decide (v9>0))=true then
    Option.bind (idx b_.Versions (W (v9-1))) fun e27=>
    if(decide (e27.Source≥e21.Source))=true then
     some (.inr (.inr 13))
    else
     some (.inl (W (v9+1)))
   else
    some (.inl (W (v9+1)))
 else
  some (.inr (.inl v9))
def m_R01_Check_L6 (b_:TBylaw) (v37:Int) (e91:TStreet):Int→Option (Sum Int (Sum Int Int)):=fun k106=>
 if(decide (k106<v37))=true then
  Option.bind (idx b_.Streets k106) fun e114=>
  Option.bind (m_R01_meet e114 e91) fun x116=>
  if x116=true then
   some (.inr (.inr 13))
  else
   some (.inl (W (k106+1)))
 else
  some (.inr (.inl k106))
def m_R01_Check_L5 (b_:TBylaw):Int→Option (Sum Int (Sum Int Int)):=fun v37=>
 if(decide (v37<(b_.Streets.length:Int)))=true then
  Option.bind (idx b_.Streets v37) fun e91=>
  Option.bind (m_R01_CheckStreet e91) fun x93=>
  if(x93 !=0)=true then
   some (.inr (.inr 13))
  else
   if(decide (v37>0))=true then
    Option.bind (idx b_.Streets (W (v37-1))) fun e97=>
    if(decide (e97.Id≥e91.Id))=true then
     some (.inr (.inr 13))
    else
     Option.bind (loopF (m_R01_Check_L6 b_ v37 e91) 0) fun e=>
     match e with
     | .inl k119=>
      some (.inl (W (v37+1)))
     | .inr rr120=>
      some (.inr (.inr rr120))
   else
    Option.bind (loopF (m_R01_Check_L6 b_ v37 e91) 0) fun e=>
    match e with
    | .inl k150=>
     some (.inl (W (v37+1)))
    | .inr rr151=>
     some (.inr (.inr rr151))
 else
  some (.inr (.inl v37))
def m_R01_Check (b_:TBylaw):Option Int:=
 if(decide ((b_.Versions.length:Int)>60))=true then
  some 13
 else
  if(decide ((b_.Streets.length:Int)>20))=true then
   some 13
  else
   Option.bind (loopF (m_R01_Check_L1 b_) 0) fun e=>
   match e with
   | .inl v30=>
    Option.bind (loopF (m_R01_Check_L5 b_) 0) fun e=>
    match e with
    | .inl v162=>
     some 0
    | .inr rr163=>
     some rr163
   | .inr rr240=>
    some rr240
theorem d_R01_Check (b_:TBylaw) (r:Int) (hm:m_R01_Check b_=some r):Does Tryz.prog 14 [.agg (TBylaw.c b_)] (fun x=>x=DI r):=by
 refine does_zy (X:=⟨Tryz.prog,tt,Tryz.f14.ntmps,pl14, [], [], [], [], []⟩) pok _ Tryz.func14 rfl rfl (Nat.le_of_ble_eq_true rfl) ?_;revert hm;refine VIf.b (fun h1 hm=> ?_) (fun h1 hm=> ?_);cases hm;exact RetY.le (leD.refl _);revert hm;refine VIf.b (fun h2 hm=> ?_) (fun h2 hm=> ?_);cases hm;exact RetY.le (leD.refl _);obtain⟨ev241,he,hk242⟩:=bd_some hm;refine LoopY.ofL (m_R01_Check_L1 b_) (fun v9=>⟨[(1, .own 0 0),(19,lD 11 b_.Versions TVersion.c),(20,DI (b_.Versions.length:Int)),(21,DI v9)], [(0, .blk [lD 11 b_.Versions TVersion.c,lD 5 b_.Streets TStreet.c] 25)],1⟩) 0 (SubY.of 1 rfl ⟨tR rfl,tR rfl,tR rfl,tR rfl,trivial⟩ ⟨hR rfl,trivial⟩) he ?_;rintro fu243 v9 b hm hi244;revert hm;refine VIf.b (fun h245 hm=> ?_) (fun h245 hm=> ?_);obtain⟨e246,hx247,hm⟩:=bd_some hm;refine⟨_,el_idx (fun _=>rfl) hx247, ?_⟩;refine⟨rfl, ?_⟩;obtain⟨x248,hx249,hm⟩:=bd_some hm;refine CallY.det (d_R01_CheckVersion e246 _ hx249) ?_;revert hm;refine VIf.b (fun h250 hm=> ?_) (fun h250 hm=> ?_);cases hm;cases hi244;have hm:=hk242;cases hm;exact RetY.le (leD.refl _);revert hm;refine VIf.b (fun h251 hm=> ?_) (fun h251 hm=> ?_);obtain⟨e252,hx253,hm⟩:=bd_some hm;refine⟨_,el_idx (fun _=>rfl) hx253, ?_⟩;revert hm;refine VIf.b (fun h254 hm=> ?_) (fun h254 hm=> ?_);cases hm;cases hi244;have hm:=hk242;cases hm;exact RetY.le (leD.refl _);cases hm;exact⟨(_,(W (v9+1))),SubY.of 1 rfl ⟨tR rfl,tR rfl,tR rfl,tR rfl,trivial⟩ ⟨hR rfl,trivial⟩,hi244,Nat.lt_succ_self _⟩;cases hm;exact⟨(_,(W (v9+1))),SubY.of 1 rfl ⟨tR rfl,tR rfl,tR rfl,tR rfl,trivial⟩ ⟨hR rfl,trivial⟩,hi244,Nat.lt_succ_self _⟩;cases hm;cases hi244;have hm:=hk242;obtain⟨ev388,he,hk389⟩:=bd_some hm;refine LoopY.ofL (m_R01_Check_L5 b_) (fun v261=>⟨[(1, .own 0 0),(47,lD 5 b_.Streets TStreet.c),(48,DI (b_.Streets.length:Int)),(49,DI v261)], [(0, .blk [lD 11 b_.Versions TVersion.c,lD 5 b_.Streets TStreet.c] 25)],1⟩) 0 (SubY.of 1 rfl ⟨tR rfl,tR rfl,tR rfl,tR rfl,trivial⟩ ⟨hR rfl,trivial⟩) he ?_;rintro fu390 v261 b hm hi391;revert hm;refine VIf.b (fun h392 hm=> ?_) (fun h392 hm=> ?_);obtain⟨e393,hx394,hm⟩:=bd_some hm;refine⟨_,el_idx (fun _=>rfl) hx394, ?_⟩;refine⟨rfl, ?_⟩;obtain⟨x395,hx396,hm⟩:=bd_some hm;refine CallY.det (d_R01_CheckStreet e393 _ hx396) ?_;revert hm;refine VIf.b (fun h397 hm=> ?_) (fun h397 hm=> ?_);cases hm;cases hi391;have hm:=hk389;cases hm;exact RetY.le (leD.refl _);revert hm;refine VIf.b (fun h398 hm=> ?_) (fun h398 hm=> ?_);obtain⟨e399,hx400,hm⟩:=bd_some hm;refine⟨_,el_idx (fun _=>rfl) hx400, ?_⟩;revert hm;refine VIf.b (fun h401 hm=> ?_) (fun h401 hm=> ?_);cases hm;cases hi391;have hm:=hk389;cases hm;exact RetY.le (leD.refl _);obtain⟨ev423,he,hk424⟩:=bd_some hm;refine LoopY.ofL (m_R01_Check_L6 b_ v261 e393) (fun k408=>⟨[(1, .own 0 0),(5,DI v261),(6, .own 1 0),(7,DI k408),(47,lD 5 b_.Streets TStreet.c),(48,DI (b_.Streets.length:Int)),(49,DI v261)], [(0, .blk [lD 11 b_.Versions TVersion.c,lD 5 b_.Streets TStreet.c] 25),(1, .blk [DI e393.Id,DI e393.Class,DI e393.District,DI e393.First,DI e393.Many] 49)],2⟩) 0 (SubY.of 2 rfl ⟨tR rfl,tR rfl,tR rfl,tR rfl,tR rfl,tR rfl,tR rfl,trivial⟩ ⟨hR rfl,hR rfl,trivial⟩) he ?_;rintro fu425 k408 b hm hi426;revert hm;refine VIf.b (fun h427 hm=> ?_) (fun h427 hm=> ?_);refine⟨rfl, ?_⟩;obtain⟨e428,hx429,hm⟩:=bd_some hm;refine⟨_,el_idx (fun _=>rfl) hx429, ?_⟩;obtain⟨x430,hx431,hm⟩:=bd_some hm;refine CallY.det (d_R01_meet e428 e393 _ hx431) ?_;revert hm;refine VIf.b (fun h432 hm=> ?_) (fun h432 hm=> ?_);cases hm;cases hi426;have hm:=hk424;cases hm;cases hi391;have hm:=hk389;cases hm;exact RetY.le (leD.refl _);cases hm;exact⟨(_,(W (k408+1))),SubY.of 2 rfl ⟨tR rfl,tR rfl,tR rfl,tR rfl,tR rfl,tR rfl,tR rfl,trivial⟩ ⟨hR rfl,hR rfl,trivial⟩,hi426,Nat.lt_succ_self _⟩;cases hm;cases hi426;have hm:=hk424;cases hm;exact⟨(_,(W (v261+1))),SubY.of 1 rfl ⟨tR rfl,tR rfl,tR rfl,tR rfl,trivial⟩ ⟨hR rfl,trivial⟩,hi391,Nat.lt_succ_self _⟩;obtain⟨ev454,he,hk455⟩:=bd_some hm;refine LoopY.ofL (m_R01_Check_L6 b_ v261 e393) (fun k439=>⟨[(1, .own 0 0),(5,DI v261),(6, .own 1 0),(7,DI k439),(47,lD 5 b_.Streets TStreet.c),(48,DI (b_.Streets.length:Int)),(49,DI v261)], [(0, .blk [lD 11 b_.Versions TVersion.c,lD 5 b_.Streets TStreet.c] 25),(1, .blk [DI e393.Id,DI e393.Class,DI e393.District,DI e393.First,DI e393.Many] 49)],2⟩) 0 (SubY.of 2 rfl ⟨tR rfl,tR rfl,tR rfl,tR rfl,tR rfl,tR rfl,tR rfl,trivial⟩ ⟨hR rfl,hR rfl,trivial⟩) he ?_;rintro fu456 k439 b hm hi457;revert hm;refine VIf.b (fun h458 hm=> ?_) (fun h458 hm=> ?_);refine⟨rfl, ?_⟩;obtain⟨e459,hx460,hm⟩:=bd_some hm;refine⟨_,el_idx (fun _=>rfl) hx460, ?_⟩;obtain⟨x461,hx462,hm⟩:=bd_some hm;refine CallY.det (d_R01_meet e459 e393 _ hx462) ?_;revert hm;refine VIf.b (fun h463 hm=> ?_) (fun h463 hm=> ?_);cases hm;cases hi457;have hm:=hk455;cases hm;cases hi391;have hm:=hk389;cases hm;exact RetY.le (leD.refl _);cases hm;exact⟨(_,(W (k439+1))),SubY.of 2 rfl ⟨tR rfl,tR rfl,tR rfl,tR rfl,tR rfl,tR rfl,tR rfl,trivial⟩ ⟨hR rfl,hR rfl,trivial⟩,hi457,Nat.lt_succ_self _⟩;cases hm;cases hi457;have hm:=hk455;cases hm;exact⟨(_,(W (v261+1))),SubY.of 1 rfl ⟨tR rfl,tR rfl,tR rfl,tR rfl,trivial⟩ ⟨hR rfl,trivial⟩,hi391,Nat.lt_succ_self _⟩;cases hm;cases hi391;have hm:=hk389;cases hm;exact RetY.le (leD.refl _)
def m_R01_Row_L1 (l:(List Int)):(ByteArray×Int)→Option (Sum (ByteArray×Int) (ByteArray×Int)):=fun(word9,v10)=>
 if(decide (v10<(l.length:Int)))=true then
  Option.bind (idx l v10) fun e20=>
  if(!(word9.toList==(⟨#[]⟩:ByteArray).toList))=true then
   gd (((word9.size+(⟨#[32]⟩:ByteArray).size:Nat):Int)≤9223372036854775807)<|
   Option.bind (m_R01_Text e20) fun x23=>
   gd ((((word9++(⟨#[32]⟩:ByteArray)).size+x23.size:Nat):Int)≤9223372036854775807)<|
   some (.inl (((word9++(⟨#[32]⟩:ByteArray))++x23),(W (v10+1))))
  else
   Option.bind (m_R01_Text e20) fun x25=>
   gd (((word9.size+x25.size:Nat):Int)≤9223372036854775807)<|
   some (.inl ((word9++x25),(W (v10+1))))
 else
  some (.inr (word9,v10))
def m_R01_Row (word:ByteArray) (l:(List Int)):Option ByteArray:=
 Option.bind (loopF (m_R01_Row_L1 l) (word,0)) fun(word27,v28)=>
 some word27
theorem d_R01_Row (word:ByteArray) (l:(List Int)) (r:ByteArray) (hm:m_R01_Row word l=some r):Does Tryz.prog 15 [.v (.string word),lD 1 l cI] (fun x=>x= .v (.string r)):=by
 refine does_zy (X:=⟨Tryz.prog,tt,Tryz.f15.ntmps, [], [], [], [], [], []⟩) pok _ Tryz.func15 rfl rfl (Nat.le_of_ble_eq_true rfl) ?_;obtain⟨ev29,he,hk30⟩:=bd_some hm;refine LoopY.ofL (m_R01_Row_L1 l) (fun(word9,v10)=>⟨[(0, .v (.string word9)),(7,lD 1 l cI),(8,DI (l.length:Int)),(9,DI v10)], [],0⟩) (word,0) (SubY.of 0 rfl ⟨tR rfl,tR rfl,tR rfl,tR rfl,trivial⟩ trivial) he ?_;rintro fu31 ⟨word9,v10⟩ b hm hi32;revert hm;refine VIf.b (fun h33 hm=> ?_) (fun h33 hm=> ?_);obtain⟨e34,hx35,hm⟩:=bd_some hm;refine⟨_,el_idx (fun _=>rfl) hx35, ?_⟩;revert hm;refine VIf.b (fun h36 hm=> ?_) (fun h36 hm=> ?_);obtain⟨hg,hm⟩:=gd_some hm;refine⟨hg, ?_⟩;obtain⟨x37,hx38,hm⟩:=bd_some hm;refine CallY.det (d_R01_Text e34 _ hx38) ?_;obtain⟨hg,hm⟩:=gd_some hm;refine⟨hg, ?_⟩;cases hm;exact⟨(_,(((word9++(⟨#[32]⟩:ByteArray))++x37),(W (v10+1)))),SubY.of 0 rfl ⟨tR rfl,tR rfl,tR rfl,tR rfl,trivial⟩ trivial,hi32,Nat.lt_succ_self _⟩;obtain⟨x39,hx40,hm⟩:=bd_some hm;refine CallY.det (d_R01_Text e34 _ hx40) ?_;obtain⟨hg,hm⟩:=gd_some hm;refine⟨hg, ?_⟩;cases hm;exact⟨(_,((word9++x39),(W (v10+1)))),SubY.of 0 rfl ⟨tR rfl,tR rfl,tR rfl,tR rfl,trivial⟩ trivial,hi32,Nat.lt_succ_self _⟩;cases hm;cases hi32;have hm:=hk30;cases hm;exact RetY.le (leD.refl _)
def m_R01_Print_L1 (b_:TBylaw):(ByteArray×Int)→Option (Sum (ByteArray×Int) (ByteArray×Int)):=fun(out9,v10)=>
 if(decide (v10<(b_.Versions.length:Int)))=true then
  Option.bind (idx b_.Versions v10) fun e17=>
  Option.bind (m_R01_Row (⟨#[118,101,114,115,105,111,110]⟩:ByteArray) ([e17.Source,e17.Class,e17.From,e17.On.Lo,e17.On.Hi,e17.Off.Lo,e17.Off.Hi,e17.Moon,e17.Fog,e17.Known,e17.Until]:List Int)) fun x19=>
  gd (((out9.size+x19.size:Nat):Int)≤9223372036854775807)<|
  gd ((((out9++x19).size+(⟨#[10]⟩:ByteArray).size:Nat):Int)≤9223372036854775807)<|
  some (.inl (((out9++x19)++(⟨#[10]⟩:ByteArray)),(W (v10+1))))
 else
  some (.inr (out9,v10))
def m_R01_Print_L2 (b_:TBylaw):(ByteArray×Int)→Option (Sum (ByteArray×Int) (ByteArray×Int)):=fun(out28,v29)=>
 if(decide (v29<(b_.Streets.length:Int)))=true then
  Option.bind (idx b_.Streets v29) fun e36=>
  Option.bind (m_R01_Row (⟨#[115,116,114,101,101,116]⟩:ByteArray) ([e36.Id,e36.Class,e36.District,e36.First,e36.Many]:List Int)) fun x38=>
  gd (((out28.size+x38.size:Nat):Int)≤9223372036854775807)<|
  gd ((((out28++x38).size+(⟨#[10]⟩:ByteArray).size:Nat):Int)≤9223372036854775807)<|
  some (.inl (((out28++x38)++(⟨#[10]⟩:ByteArray)),(W (v29+1))))
 else
  some (.inr (out28,v29))
def m_R01_Print (b_:TBylaw):Option (ByteArray×Int):=
 Option.bind (m_R01_Check b_) fun x1=>
 if(x1 !=0)=true then
  some ((⟨#[]⟩:ByteArray),x1)
 else
  Option.bind (loopF (m_R01_Print_L1 b_) ((⟨#[]⟩:ByteArray),0)) fun(out21,v22)=>
  Option.bind (loopF (m_R01_Print_L2 b_) (out21,0)) fun(out40,v41)=>
  some (out40,0)
theorem d_R01_Print (b_:TBylaw) (r:(ByteArray×Int)) (hm:m_R01_Print b_=some r):Does Tryz.prog 5 [.agg (TBylaw.c b_)] (fun x=>x= .tup [.v (.string r.1),DI r.2]):=by
 refine does_zy (X:=⟨Tryz.prog,tt,Tryz.f5.ntmps, [], [], [], [], [], []⟩) pok _ Tryz.func5 rfl rfl (Nat.le_of_ble_eq_true rfl) ?_;obtain⟨x1,hx2,hm⟩:=bd_some hm;refine CallY.det (d_R01_Check b_ _ hx2) ?_;revert hm;refine VIf.b (fun h3 hm=> ?_) (fun h3 hm=> ?_);cases hm;exact RetY.le (leD.refl _);obtain⟨ev51,he,hk52⟩:=bd_some hm;refine LoopY.ofL (m_R01_Print_L1 b_) (fun(out9,v10)=>⟨[(1, .own 0 0),(5, .v (.string out9)),(16,lD 11 b_.Versions TVersion.c),(17,DI (b_.Versions.length:Int)),(18,DI v10)], [(0, .blk [lD 11 b_.Versions TVersion.c,lD 5 b_.Streets TStreet.c] 25)],1⟩) ((⟨#[]⟩:ByteArray),0) (SubY.of 1 rfl ⟨tR rfl,tR rfl,tR rfl,tR rfl,tR rfl,trivial⟩ ⟨hR rfl,trivial⟩) he ?_;rintro fu53 ⟨out9,v10⟩ b hm hi54;revert hm;refine VIf.b (fun h55 hm=> ?_) (fun h55 hm=> ?_);obtain⟨e56,hx57,hm⟩:=bd_some hm;refine⟨_,el_idx (fun _=>rfl) hx57, ?_⟩;refine⟨([e56.Source,e56.Class,e56.From,e56.On.Lo,e56.On.Hi,e56.Off.Lo,e56.Off.Hi,e56.Moon,e56.Fog,e56.Known,e56.Until]:List Int).flatMap cI,([e56.Source,e56.Class,e56.From,e56.On.Lo,e56.On.Hi,e56.Off.Lo,e56.Off.Hi,e56.Moon,e56.Fog,e56.Known,e56.Until]:List Int).length,⟨rfl,rfl⟩, ?_⟩;obtain⟨x58,hx59,hm⟩:=bd_some hm;refine CallOwn.det (d_R01_Row ((⟨#[118,101,114,115,105,111,110]⟩:ByteArray)) (([e56.Source,e56.Class,e56.From,e56.On.Lo,e56.On.Hi,e56.Off.Lo,e56.Off.Hi,e56.Moon,e56.Fog,e56.Known,e56.Until]:List Int)) _ hx59) ?_;obtain⟨hg,hm⟩:=gd_some hm;refine⟨hg, ?_⟩;obtain⟨hg,hm⟩:=gd_some hm;refine⟨hg, ?_⟩;cases hm;exact⟨(_,(((out9++x58)++(⟨#[10]⟩:ByteArray)),(W (v10+1)))),SubY.of 1 rfl ⟨tR rfl,tR rfl,tR rfl,tR rfl,tR rfl,trivial⟩ ⟨hR rfl,trivial⟩,hi54,Nat.lt_succ_self _⟩;cases hm;cases hi54;have hm:=hk52;obtain⟨ev79,he,hk80⟩:=bd_some hm;refine LoopY.ofL (m_R01_Print_L2 b_) (fun(out65,v66)=>⟨[(5, .v (.string out65)),(55,lD 5 b_.Streets TStreet.c),(56,DI (b_.Streets.length:Int)),(57,DI v66)], [],1⟩) (out9,0) (SubY.of 1 rfl ⟨tR rfl,tR rfl,tR rfl,tR rfl,trivial⟩ trivial) he ?_;rintro fu81 ⟨out65,v66⟩ b hm hi82;revert hm;refine VIf.b (fun h83 hm=> ?_) (fun h83 hm=> ?_);obtain⟨e84,hx85,hm⟩:=bd_some hm;refine⟨_,el_idx (fun _=>rfl) hx85, ?_⟩;refine⟨([e84.Id,e84.Class,e84.District,e84.First,e84.Many]:List Int).flatMap cI,([e84.Id,e84.Class,e84.District,e84.First,e84.Many]:List Int).length,⟨rfl,rfl⟩, ?_⟩;obtain⟨x86,hx87,hm⟩:=bd_some hm;refine CallOwn.det (d_R01_Row ((⟨#[115,116,114,101,101,116]⟩:ByteArray)) (([e84.Id,e84.Class,e84.District,e84.First,e84.Many]:List Int)) _ hx87) ?_;obtain⟨hg,hm⟩:=gd_some hm;refine⟨hg, ?_⟩;obtain⟨hg,hm⟩:=gd_some hm;refine⟨hg, ?_⟩;cases hm;exact⟨(_,(((out65++x86)++(⟨#[10]⟩:ByteArray)),(W (v66+1)))),SubY.of 1 rfl ⟨tR rfl,tR rfl,tR rfl,tR rfl,trivial⟩ trivial,hi82,Nat.lt_succ_self _⟩;cases hm;cases hi82;have hm:=hk80;cases hm;exact RetY.le (leD.refl _)
def m_bylaw_Parse (text:ByteArray):Option (TBylaw×Int×Int):=
 if(decide ((text.size:Int)>8000))=true then
  some ((⟨[], []⟩:TBylaw),0,2)
 else
  Option.bind (m_bylaw_read text) fun⟨x2,x3,x4⟩=>
  if(x4 !=0)=true then
   some ((⟨[], []⟩:TBylaw),x3,x4)
  else
   Option.bind (m_bylaw_Check x2) fun x7=>
   if(x7 !=0)=true then
    some ((⟨[], []⟩:TBylaw),0,13)
   else
    some (x2,0,0)
theorem d_bylaw_Parse (text:ByteArray) (r:(TBylaw×Int×Int)) (hm:m_bylaw_Parse text=some r):Does Tryz.prog 6 [.v (.string text)] (fun x=>x= .tup [.agg (TBylaw.c r.1),DI r.2.1,DI r.2.2]):=by
 refine does_zy (X:=⟨Tryz.prog,tt,Tryz.f6.ntmps, [], [], [], [], [], []⟩) pok _ Tryz.func6 rfl rfl (Nat.le_of_ble_eq_true rfl) ?_;revert hm;refine VIf.b (fun h1 hm=> ?_) (fun h1 hm=> ?_);cases hm;exact RetY.le (le1);obtain⟨⟨x2,x3,x4⟩,hx5,hm⟩:=bd_some hm;refine CallY.det (d_bylaw_read text _ hx5) ?_;revert hm;refine VIf.b (fun h6 hm=> ?_) (fun h6 hm=> ?_);cases hm;exact RetY.le (le1);obtain⟨x7,hx8,hm⟩:=bd_some hm;refine CallY.det (d_bylaw_Check x2 _ hx8) ?_;revert hm;refine VIf.b (fun h9 hm=> ?_) (fun h9 hm=> ?_);cases hm;exact RetY.le (le1);cases hm;exact RetY.le (leD.refl _)
def m_R01_Lines_L1 (text:ByteArray):((List ByteArray)×Int×Int)→Option (Sum ((List ByteArray)×Int×Int) ((List ByteArray)×Int×Int)):=fun(out4,at_5,i6)=>
 if(decide (i6<(text.size:Int)))=true then
  Option.bind (idx text.data.toList i6) fun ch11=>
  if((ch11.toNat:Int)==10)=true then
   gd ((0≤i6∧i6≤(text.size:Int))∧(0≤at_5∧at_5≤i6))<|
   gd ((out4.length+([(text.extract ((at_5).toNat) ((i6).toNat))]:List ByteArray).length)*16≤140737488355328∧out4.length+([(text.extract ((at_5).toNat) ((i6).toNat))]:List ByteArray).length≤9223372036854775807)<|
   some (.inl ((out4++([(text.extract ((at_5).toNat) ((i6).toNat))]:List ByteArray)),(W (i6+1)),(W (i6+1))))
  else
   some (.inl (out4,at_5,(W (i6+1))))
 else
  some (.inr (out4,at_5,i6))
def m_R01_Lines (text:ByteArray):Option (List ByteArray):=
 Option.bind (loopF (m_R01_Lines_L1 text) ([],0,0)) fun(out13,at_14,i15)=>
 if(decide (at_14<(text.size:Int)))=true then
  gd ((0≤at_14∧at_14≤(text.size:Int)))<|
  gd ((out13.length+([(text.extract ((at_14).toNat) text.size)]:List ByteArray).length)*16≤140737488355328∧out13.length+([(text.extract ((at_14).toNat) text.size)]:List ByteArray).length≤9223372036854775807)<|
  some (out13++([(text.extract ((at_14).toNat) text.size)]:List ByteArray))
 else
  some out13
theorem d_R01_Lines (text:ByteArray) (r:(List ByteArray)) (hm:m_R01_Lines text=some r):Does Tryz.prog 17 [.v (.string text)] (fun x=>x=lD 1 r (fun(x:ByteArray)=> [.v (.string x)])):=by
 refine does_zy (X:=⟨Tryz.prog,tt,Tryz.f17.ntmps, [], [], [], [], [], []⟩) pok _ Tryz.func17 rfl rfl (Nat.le_of_ble_eq_true rfl) ?_;obtain⟨ev17,he,hk18⟩:=bd_some hm;refine LoopY.ofL (m_R01_Lines_L1 text) (fun(out4,at_5,i6)=>⟨[(0, .v (.string text)),(3, .row 0 1),(4,DI at_5),(5,DI i6)], [(0,rE 1 out4 (fun(x:ByteArray)=> [.v (.string x)]) 9)],1⟩) ([],0,0) (SubY.of 0 rfl ⟨tR rfl,tR rfl,tR rfl,tR rfl,trivial⟩ ⟨⟨rfl,rfl⟩,trivial⟩) he ?_;rintro fu19 ⟨out4,at_5,i6⟩ b hm hi20;revert hm;refine VIf.b (fun h21 hm=> ?_) (fun h21 hm=> ?_);obtain⟨ch22,hx,hm⟩:=bd_some hm;refine⟨ch22,idx_some hx, ?_⟩;revert hm;refine VIf.b (fun h23 hm=> ?_) (fun h23 hm=> ?_);obtain⟨hg,hm⟩:=gd_some hm;refine⟨hg.1,hg.2, ?_⟩;refine⟨([(text.extract ((at_5).toNat) ((i6).toNat))]:List ByteArray).flatMap (fun(x:ByteArray)=> [.v (.string x)]),([(text.extract ((at_5).toNat) ((i6).toNat))]:List ByteArray).length,⟨rfl,rfl⟩, ?_⟩;obtain⟨hg,hm⟩:=gd_some hm;refine⟨hg,_,_,flat_app (c:=(fun(x:ByteArray)=> [.v (.string x)])) (l:=(out4:List ByteArray)) (r:=(([(text.extract ((at_5).toNat) ((i6).toNat))]:List ByteArray):List ByteArray)), ?_⟩;cases hm;exact⟨(_,((out4++([(text.extract ((at_5).toNat) ((i6).toNat))]:List ByteArray)),(W (i6+1)),(W (i6+1)))),SubY.of 1 rfl ⟨tR rfl,tR rfl,tR rfl,tR rfl,trivial⟩ ⟨hW rfl,trivial⟩,hi20,Nat.lt_succ_self _⟩;cases hm;exact⟨(_,(out4,at_5,(W (i6+1)))),SubY.of 1 rfl ⟨tR rfl,tR rfl,tR rfl,tR rfl,trivial⟩ ⟨hW rfl,trivial⟩,hi20,Nat.lt_succ_self _⟩;cases hm;cases hi20;have hm:=hk18;revert hm;refine VIf.b (fun h24 hm=> ?_) (fun h24 hm=> ?_);obtain⟨hg,hm⟩:=gd_some hm;refine⟨hg, ?_⟩;refine⟨([(text.extract ((at_5).toNat) text.size)]:List ByteArray).flatMap (fun(x:ByteArray)=> [.v (.string x)]),([(text.extract ((at_5).toNat) text.size)]:List ByteArray).length,⟨rfl,rfl⟩, ?_⟩;obtain⟨hg,hm⟩:=gd_some hm;refine⟨hg,_,_,flat_app (c:=(fun(x:ByteArray)=> [.v (.string x)])) (l:=(out4:List ByteArray)) (r:=(([(text.extract ((at_5).toNat) text.size)]:List ByteArray):List ByteArray)), ?_⟩;cases hm;exact RetY.le (leD.refl _);cases hm;exact RetY.le (leD.refl _)
def m_R01_Words_L1 (line:ByteArray):(Int×Int×(List ByteArray)×(List ByteArray))→Option (Sum (Int×Int×(List ByteArray)×(List ByteArray)) (Int×Int×(List ByteArray)×(List ByteArray))):=fun(i5,at_6,out13,out14)=>
 if(decide (i5≤(line.size:Int)))=true then
  if(decide (i5<(line.size:Int)))=true then
   Option.bind (idx line.data.toList i5) fun ch23=>
   if((ch23.toNat:Int) !=32)=true then
    some (.inl ((W (i5+1)),at_6,out13,out14))
   else
    if(decide (at_6<i5))=true then
     gd ((0≤i5∧i5≤(line.size:Int))∧(0≤at_6∧at_6≤i5))<|
     gd ((out14.length+([(line.extract ((at_6).toNat) ((i5).toNat))]:List ByteArray).length)*16≤140737488355328∧out14.length+([(line.extract ((at_6).toNat) ((i5).toNat))]:List ByteArray).length≤9223372036854775807)<|
     some (.inl ((W (i5+1)),(W (i5+1)),out13,(out14++([(line.extract ((at_6).toNat) ((i5).toNat))]:List ByteArray))))
    else
     some (.inl ((W (i5+1)),(W (i5+1)),out13,out14))
  else
   if(decide (at_6<i5))=true then
    gd ((0≤i5∧i5≤(line.size:Int))∧(0≤at_6∧at_6≤i5))<|
    gd ((out14.length+([(line.extract ((at_6).toNat) ((i5).toNat))]:List ByteArray).length)*16≤140737488355328∧out14.length+([(line.extract ((at_6).toNat) ((i5).toNat))]:List ByteArray).length≤9223372036854775807)<|
    some (.inl ((W (i5+1)),(W (i5+1)),out13,(out14++([(line.extract ((at_6).toNat) ((i5).toNat))]:List ByteArray))))
   else
    some (.inl ((W (i5+1)),(W (i5+1)),out13,out14))
 else
  some (.inr (i5,at_6,out13,out14))
def m_R01_Words (line:ByteArray):Option (List ByteArray):=
 Option.bind (loopF (m_R01_Words_L1 line) (0,0, [], [])) fun(i27,at_28,out29,out30)=>
 some out30
theorem d_R01_Words (line:ByteArray) (r:(List ByteArray)) (hm:m_R01_Words line=some r):Does Tryz.prog 19 [.v (.string line)] (fun x=>x=lD 1 r (fun(x:ByteArray)=> [.v (.string x)])):=by
 refine does_zy (X:=⟨Tryz.prog,tt,Tryz.f19.ntmps, [], [], [], [], [], []⟩) pok _ Tryz.func19 rfl rfl (Nat.le_of_ble_eq_true rfl) ?_;obtain⟨ev31,he,hk32⟩:=bd_some hm;refine LoopY.ofL (m_R01_Words_L1 line) (fun(i5,at_6,out13,out14)=>⟨[(0, .v (.string line)),(3, .row 1 1),(4,DI at_6),(5,DI i5)], [(0,rE 1 out13 (fun(x:ByteArray)=> [.v (.string x)]) 9),(1,rE 1 out14 (fun(x:ByteArray)=> [.v (.string x)]) 9)],2⟩) (0,0, [], []) (SubY.of 0 rfl ⟨tR rfl,tR rfl,tR rfl,tR rfl,trivial⟩ ⟨⟨rfl,rfl⟩,⟨rfl,rfl⟩,trivial⟩) he ?_;rintro fu33 ⟨i5,at_6,out13,out14⟩ b hm hi34;revert hm;refine VIf.b (fun h35 hm=> ?_) (fun h35 hm=> ?_);revert hm;refine VIf.b (fun h36 hm=> ?_) (fun h36 hm=> ?_);obtain⟨ch37,hx,hm⟩:=bd_some hm;refine⟨ch37,idx_some hx, ?_⟩;revert hm;refine VIf.b (fun h38 hm=> ?_) (fun h38 hm=> ?_);cases hm;exact⟨(_,((W (i5+1)),at_6,out13,out14)),SubY.of 2 rfl ⟨tR rfl,tR rfl,tR rfl,tR rfl,trivial⟩ ⟨hW rfl,hW rfl,trivial⟩,hi34,Nat.lt_succ_self _⟩;revert hm;refine VIf.b (fun h39 hm=> ?_) (fun h39 hm=> ?_);obtain⟨hg,hm⟩:=gd_some hm;refine⟨hg.1,hg.2, ?_⟩;refine⟨([(line.extract ((at_6).toNat) ((i5).toNat))]:List ByteArray).flatMap (fun(x:ByteArray)=> [.v (.string x)]),([(line.extract ((at_6).toNat) ((i5).toNat))]:List ByteArray).length,⟨rfl,rfl⟩, ?_⟩;obtain⟨hg,hm⟩:=gd_some hm;refine⟨hg,_,_,flat_app (c:=(fun(x:ByteArray)=> [.v (.string x)])) (l:=(out14:List ByteArray)) (r:=(([(line.extract ((at_6).toNat) ((i5).toNat))]:List ByteArray):List ByteArray)), ?_⟩;cases hm;exact⟨(_,((W (i5+1)),(W (i5+1)),out13,(out14++([(line.extract ((at_6).toNat) ((i5).toNat))]:List ByteArray)))),SubY.of 2 rfl ⟨tR rfl,tR rfl,tR rfl,tR rfl,trivial⟩ ⟨hW rfl,hW rfl,trivial⟩,hi34,Nat.lt_succ_self _⟩;cases hm;exact⟨(_,((W (i5+1)),(W (i5+1)),out13,out14)),SubY.of 2 rfl ⟨tR rfl,tR rfl,tR rfl,tR rfl,trivial⟩ ⟨hW rfl,hW rfl,trivial⟩,hi34,Nat.lt_succ_self _⟩;revert hm;refine VIf.b (fun h40 hm=> ?_) (fun h40 hm=> ?_);obtain⟨hg,hm⟩:=gd_some hm;refine⟨hg.1,hg.2, ?_⟩;refine⟨([(line.extract ((at_6).toNat) ((i5).toNat))]:List ByteArray).flatMap (fun(x:ByteArray)=> [.v (.string x)]),([(line.extract ((at_6).toNat) ((i5).toNat))]:List ByteArray).length,⟨rfl,rfl⟩, ?_⟩;obtain⟨hg,hm⟩:=gd_some hm;refine⟨hg,_,_,flat_app (c:=(fun(x:ByteArray)=> [.v (.string x)])) (l:=(out14:List ByteArray)) (r:=(([(line.extract ((at_6).toNat) ((i5).toNat))]:List ByteArray):List ByteArray)), ?_⟩;cases hm;exact⟨(_,((W (i5+1)),(W (i5+1)),out13,(out14++([(line.extract ((at_6).toNat) ((i5).toNat))]:List ByteArray)))),SubY.of 2 rfl ⟨tR rfl,tR rfl,tR rfl,tR rfl,trivial⟩ ⟨hW rfl,hW rfl,trivial⟩,hi34,Nat.lt_succ_self _⟩;cases hm;exact⟨(_,((W (i5+1)),(W (i5+1)),out13,out14)),SubY.of 2 rfl ⟨tR rfl,tR rfl,tR rfl,tR rfl,trivial⟩ ⟨hW rfl,hW rfl,trivial⟩,hi34,Nat.lt_succ_self _⟩;cases hm;cases hi34;have hm:=hk32;cases hm;exact RetY.le (leD.refl _)
def m_R01_Says (line:ByteArray):Option Bool:=
 Option.bind (m_R01_Words line) fun x1=>
 if(decide ((x1.length:Int)>0))=true then
  Option.bind (idx line.data.toList 0) fun ch4=>
  some ((ch4.toNat:Int) !=35)
 else
  some false
theorem d_R01_Says (line:ByteArray) (r:Bool) (hm:m_R01_Says line=some r):Does Tryz.prog 18 [.v (.string line)] (fun x=>x=DB r):=by
 refine does_zy (X:=⟨Tryz.prog,tt,Tryz.f18.ntmps, [], [], [], [], [], []⟩) pok _ Tryz.func18 rfl rfl (Nat.le_of_ble_eq_true rfl) ?_;obtain⟨x1,hx2,hm⟩:=bd_some hm;refine CallY.det (d_R01_Words line _ hx2) ?_;revert hm;refine VIf.b (fun h3 hm=> ?_) (fun h3 hm=> ?_);obtain⟨ch4,hx,hm⟩:=bd_some hm;refine⟨ch4,idx_some hx, ?_⟩;cases hm;exact RetY.le (leD.refl _);cases hm;exact RetY.le (leD.refl _)
def m_R01_Number_L1 (w:ByteArray):(Int×Int)→Option (Sum (Int×Int) (Sum (Int×Int) (Int×Bool))):=fun(n12,i13)=>
 if(decide (i13<(w.size:Int)))=true then
  Option.bind (idx w.data.toList i13) fun ch21=>
  if(decide ((ch21.toNat:Int)<48))=true then
   some (.inr (.inr (0,false)))
  else
   Option.bind (idx w.data.toList i13) fun ch23=>
   if(decide ((ch23.toNat:Int)>57))=true then
    some (.inr (.inr (0,false)))
   else
    Option.bind (idx w.data.toList i13) fun ch25=>
    some (.inl ((W ((W (10*n12))+(W (IntKind.u8.wrap ((ch25.toNat:Int)-48))))),(W (i13+1))))
 else
  some (.inr (.inl (n12,i13)))
def m_R01_Number (w:ByteArray) (most:Int):Option (Int×Bool):=
 if(w.toList==(⟨#[]⟩:ByteArray).toList)=true then
  some (0,false)
 else
  if(decide ((w.size:Int)>most))=true then
   some (0,false)
  else
   Option.bind (idx w.data.toList 0) fun ch3=>
   if((ch3.toNat:Int)==48)=true then
    if(decide ((w.size:Int)>1))=true then
     some (0,false)
    else
     Option.bind (loopF (m_R01_Number_L1 w) (0,0)) fun e=>
     match e with
     | .inl (n26,i27)=>
      some (n26,true)
     | .inr rr28=>
      some rr28
   else
    Option.bind (loopF (m_R01_Number_L1 w) (0,0)) fun e=>
    match e with
    | .inl (n59,i60)=>
     some (n59,true)
    | .inr rr61=>
     some rr61
theorem d_R01_Number (w:ByteArray) (most:Int) (r:(Int×Bool)) (hm:m_R01_Number w most=some r):Does Tryz.prog 48 [.v (.string w),DI most] (fun x=>x= .tup [DI r.1,DB r.2]):=by
 refine does_zy (X:=⟨Tryz.prog,tt,Tryz.f48.ntmps, [], [], [], [], [], []⟩) pok _ Tryz.func48 rfl rfl (Nat.le_of_ble_eq_true rfl) ?_;revert hm;refine VIf.b (fun h1 hm=> ?_) (fun h1 hm=> ?_);cases hm;exact RetY.le (leD.refl _);revert hm;refine VIf.b (fun h2 hm=> ?_) (fun h2 hm=> ?_);cases hm;exact RetY.le (leD.refl _);obtain⟨ch3,hx,hm⟩:=bd_some hm;refine⟨ch3,idx_some hx, ?_⟩;revert hm;refine VIf.b (fun h4 hm=> ?_) (fun h4 hm=> ?_);revert hm;refine VIf.b (fun h5 hm=> ?_) (fun h5 hm=> ?_);cases hm;exact RetY.le (leD.refl _);obtain⟨ev29,he,hk30⟩:=bd_some hm;refine LoopY.ofL (m_R01_Number_L1 w) (fun(n12,i13)=>⟨[(0, .v (.string w)),(6,DI n12),(7,DI i13)], [],0⟩) (0,0) (SubY.of 0 rfl ⟨tR rfl,tR rfl,tR rfl,trivial⟩ trivial) he ?_;rintro fu31 ⟨n12,i13⟩ b hm hi32;revert hm;refine VIf.b (fun h33 hm=> ?_) (fun h33 hm=> ?_);obtain⟨ch34,hx,hm⟩:=bd_some hm;refine⟨ch34,idx_some hx, ?_⟩;revert hm;refine VIf.b (fun h35 hm=> ?_) (fun h35 hm=> ?_);cases hm;cases hi32;have hm:=hk30;cases hm;exact RetY.le (leD.refl _);obtain⟨ch36,hx,hm⟩:=bd_some hm;refine⟨ch36,idx_some hx, ?_⟩;revert hm;refine VIf.b (fun h37 hm=> ?_) (fun h37 hm=> ?_);cases hm;cases hi32;have hm:=hk30;cases hm;exact RetY.le (leD.refl _);obtain⟨ch38,hx,hm⟩:=bd_some hm;refine⟨ch38,idx_some hx, ?_⟩;cases hm;exact⟨(_,((W ((W (10*n12))+(W (IntKind.u8.wrap ((ch38.toNat:Int)-48))))),(W (i13+1)))),SubY.of 0 rfl ⟨tR rfl,tR rfl,tR rfl,trivial⟩ trivial,hi32,Nat.lt_succ_self _⟩;cases hm;cases hi32;have hm:=hk30;cases hm;exact RetY.le (leD.refl _);obtain⟨ev62,he,hk63⟩:=bd_some hm;refine LoopY.ofL (m_R01_Number_L1 w) (fun(n45,i46)=>⟨[(0, .v (.string w)),(6,DI n45),(7,DI i46)], [],0⟩) (0,0) (SubY.of 0 rfl ⟨tR rfl,tR rfl,tR rfl,trivial⟩ trivial) he ?_;rintro fu64 ⟨n45,i46⟩ b hm hi65;revert hm;refine VIf.b (fun h66 hm=> ?_) (fun h66 hm=> ?_);obtain⟨ch67,hx,hm⟩:=bd_some hm;refine⟨ch67,idx_some hx, ?_⟩;revert hm;refine VIf.b (fun h68 hm=> ?_) (fun h68 hm=> ?_);cases hm;cases hi65;have hm:=hk63;cases hm;exact RetY.le (leD.refl _);obtain⟨ch69,hx,hm⟩:=bd_some hm;refine⟨ch69,idx_some hx, ?_⟩;revert hm;refine VIf.b (fun h70 hm=> ?_) (fun h70 hm=> ?_);cases hm;cases hi65;have hm:=hk63;cases hm;exact RetY.le (leD.refl _);obtain⟨ch71,hx,hm⟩:=bd_some hm;refine⟨ch71,idx_some hx, ?_⟩;cases hm;exact⟨(_,((W ((W (10*n45))+(W (IntKind.u8.wrap ((ch71.toNat:Int)-48))))),(W (i46+1)))),SubY.of 0 rfl ⟨tR rfl,tR rfl,tR rfl,trivial⟩ trivial,hi65,Nat.lt_succ_self _⟩;cases hm;cases hi65;have hm:=hk63;cases hm;exact RetY.le (leD.refl _)
def m_R01_Numbers_L1 (l:(List ByteArray)) (most:Int):((List Int)×Int)→Option (Sum ((List Int)×Int) (Sum ((List Int)×Int) ((List Int)×Bool))):=fun(out8,v9)=>
 if(decide (v9<(l.length:Int)))=true then
  Option.bind (idx l v9) fun e18=>
  Option.bind (m_R01_Number e18 most) fun⟨x20,x21⟩=>
  if(!x21)=true then
   some (.inr (.inr ([],false)))
  else
   gd ((out8.length+([x20]:List Int).length)*8≤140737488355328∧out8.length+([x20]:List Int).length≤9223372036854775807)<|
   some (.inl ((out8++([x20]:List Int)),(W (v9+1))))
 else
  some (.inr (.inl (out8,v9)))
def m_R01_Numbers (l:(List ByteArray)) (most:Int):Option ((List Int)×Bool):=
 Option.bind (loopF (m_R01_Numbers_L1 l most) ([],0)) fun e=>
 match e with
 | .inl (out24,v25)=>
  some (out24,true)
 | .inr rr26=>
  some rr26
theorem d_R01_Numbers (l:(List ByteArray)) (most:Int) (r:((List Int)×Bool)) (hm:m_R01_Numbers l most=some r):Does Tryz.prog 20 [lD 1 l (fun(x:ByteArray)=> [.v (.string x)]),DI most] (fun x=>x= .tup [lD 1 r.1 cI,DB r.2]):=by
 refine does_zy (X:=⟨Tryz.prog,tt,Tryz.f20.ntmps, [], [], [], [], [], []⟩) pok _ Tryz.func20 rfl rfl (Nat.le_of_ble_eq_true rfl) ?_;obtain⟨ev27,he,hk28⟩:=bd_some hm;refine LoopY.ofL (m_R01_Numbers_L1 l most) (fun(out8,v9)=>⟨[(1,DI most),(6, .row 0 1),(11,lD 1 l (fun(x:ByteArray)=> [.v (.string x)])),(12,DI (l.length:Int)),(13,DI v9)], [(0,rE 1 out8 cI 3)],1⟩) ([],0) (SubY.of 0 rfl ⟨tR rfl,tR rfl,tR rfl,tR rfl,tR rfl,trivial⟩ ⟨⟨rfl,rfl⟩,trivial⟩) he ?_;rintro fu29 ⟨out8,v9⟩ b hm hi30;revert hm;refine VIf.b (fun h31 hm=> ?_) (fun h31 hm=> ?_);obtain⟨e32,hx33,hm⟩:=bd_some hm;refine⟨_,el_idx (fun _=>rfl) hx33, ?_⟩;obtain⟨⟨x34,x35⟩,hx36,hm⟩:=bd_some hm;refine CallY.det (d_R01_Number e32 most _ hx36) ?_;revert hm;refine VIf.b (fun h37 hm=> ?_) (fun h37 hm=> ?_);cases hm;cases hi30;have hm:=hk28;cases hm;exact RetY.le (le2);refine⟨([x34]:List Int).flatMap cI,([x34]:List Int).length,⟨rfl,rfl⟩, ?_⟩;obtain⟨hg,hm⟩:=gd_some hm;refine⟨hg,_,_,flat_app (c:=cI) (l:=(out8:List Int)) (r:=(([x34]:List Int):List Int)), ?_⟩;cases hm;exact⟨(_,((out8++([x34]:List Int)),(W (v9+1)))),SubY.of 1 rfl ⟨tR rfl,tR rfl,tR rfl,tR rfl,tR rfl,trivial⟩ ⟨hW rfl,trivial⟩,hi30,Nat.lt_succ_self _⟩;cases hm;cases hi30;have hm:=hk28;cases hm;exact RetY.le (leD.refl _)
def m_R01_Parse_L1 (x2:(List ByteArray)):(Int×(List TVersion)×(List TStreet)×(List TStreet))→Option (Sum (Int×(List TVersion)×(List TStreet)×(List TStreet)) (Sum (Int×(List TVersion)×(List TStreet)×(List TStreet)) (TBylaw×Int×Int))):=fun(v71,v72,v73,v74)=>
 if(decide (v71<(x2.length:Int)))=true then
  Option.bind (idx x2 v71) fun e143=>
  Option.bind (m_R01_Says e143) fun x145=>
  if(!x145)=true then
   some (.inl ((W (v71+1)),v72,v73,v74))
  else
   Option.bind (m_R01_Words e143) fun x148=>
   gd ((0≤(1:Int)∧1≤(x148.length:Int)))<|
   Option.bind (some (sub x148 (1:Int).toNat x148.length)) fun sl150=>
   Option.bind (m_R01_Numbers sl150 6) fun⟨x151,x152⟩=>
   if x152=true then
    Option.bind (idx x148 0) fun e155=>
    if(e155.toList==(⟨#[118,101,114,115,105,111,110]⟩:ByteArray).toList)=true then
     if((x151.length:Int)==11)=true then
      Option.bind (idx x151 0) fun e159=>
      Option.bind (idx x151 1) fun e161=>
      Option.bind (idx x151 2) fun e163=>
      Option.bind (idx x151 3) fun e165=>
      Option.bind (idx x151 4) fun e167=>
      Option.bind (idx x151 5) fun e169=>
      Option.bind (idx x151 6) fun e171=>
      Option.bind (idx x151 7) fun e173=>
      Option.bind (idx x151 8) fun e175=>
      Option.bind (idx x151 9) fun e177=>
      Option.bind (idx x151 10) fun e179=>
      gd ((v72.length+([(⟨e159,e161,e163,(⟨e165,e167⟩:TRange),(⟨e169,e171⟩:TRange),e173,e175,e177,e179⟩:TVersion)]:List TVersion).length)*88≤140737488355328∧v72.length+([(⟨e159,e161,e163,(⟨e165,e167⟩:TRange),(⟨e169,e171⟩:TRange),e173,e175,e177,e179⟩:TVersion)]:List TVersion).length≤9223372036854775807)<|
      some (.inl ((W (v71+1)),(v72++([(⟨e159,e161,e163,(⟨e165,e167⟩:TRange),(⟨e169,e171⟩:TRange),e173,e175,e177,e179⟩:TVersion)]:List TVersion)),v73,v74))
     else
      Option.bind (idx x148 0) fun e181=>
      if(e181.toList==(⟨#[115,116,114,101,101,116]⟩:ByteArray).toList)=true then
       if((x151.length:Int)==5)=true then
        Option.bind (idx x151 0) fun e185=>
        Option.bind (idx x151 1) fun e187=>
        Option.bind (idx x151 2) fun e189=>
        Option.bind (idx x151 3) fun e191=>
        Option.bind (idx x151 4) fun e193=>
        gd ((v74.length+([(⟨e185,e187,e189,e191,e193⟩:TStreet)]:List TStreet).length)*40≤140737488355328∧v74.length+([(⟨e185,e187,e189,e191,e193⟩:TStreet)]:List TStreet).length≤9223372036854775807)<|
        some (.inl ((W (v71+1)),v72,v73,(v74++([(⟨e185,e187,e189,e191,e193⟩:TStreet)]:List TStreet))))
       else
        some (.inr (.inr ((⟨[], []⟩:TBylaw),(W (v71+1)),5)))
      else
       some (.inr (.inr ((⟨[], []⟩:TBylaw),(W (v71+1)),5)))
    else
     Option.bind (idx x148 0) fun e195=>
     if(e195.toList==(⟨#[115,116,114,101,101,116]⟩:ByteArray).toList)=true then
      if((x151.length:Int)==5)=true then
       Option.bind (idx x151 0) fun e199=>
       Option.bind (idx x151 1) fun e201=>
       Option.bind (idx x151 2) fun e203=>
       Option.bind (idx x151 3) fun e205=>
       Option.bind (idx x151 4) fun e207=>
       gd ((v74.length+([(⟨e199,e201,e203,e205,e207⟩:TStreet)]:List TStreet).length)*40≤140737488355328∧v74.length+([(⟨e199,e201,e203,e205,e207⟩:TStreet)]:List TStreet).length≤9223372036854775807)<|
       some (.inl ((W (v71+1)),v72,v73,(v74++([(⟨e199,e201,e203,e205,e207⟩:TStreet)]:List TStreet))))
      else
       some (.inr (.inr ((⟨[], []⟩:TBylaw),(W (v71+1)),5)))
     else
      some (.inr (.inr ((⟨[], []⟩:TBylaw),(W (v71+1)),5)))
   else
    some (.inr (.inr ((⟨[], []⟩:TBylaw),(W (v71+1)),5)))
 else
  some (.inr (.inl (v71,v72,v73,v74)))
def m_R01_Parse (text:ByteArray):Option (TBylaw×Int×Int):=
 if(decide ((text.size:Int)>8000))=true then
  some ((⟨[], []⟩:TBylaw),0,2)
 else
  Option.bind (m_R01_Lines text) fun x2=>
  Option.bind (loopF (m_R01_Parse_L1 x2) (0, [], [], [])) fun e=>
  match e with
  | .inl (v209,v210,v211,v212)=>
   Option.bind (m_R01_Check (⟨v210,v212⟩:TBylaw)) fun x213=>
   if(x213 !=0)=true then
    some ((⟨[], []⟩:TBylaw),0,x213)
   else
    some ((⟨v210,v212⟩:TBylaw),0,0)
  | .inr rr216=>
   some rr216
theorem d_R01_Parse (text:ByteArray) (r:(TBylaw×Int×Int)) (hm:m_R01_Parse text=some r):Does Tryz.prog 7 [.v (.string text)] (fun x=>x= .tup [.agg (TBylaw.c r.1),DI r.2.1,DI r.2.2]):=by
 refine does_zy (X:=⟨Tryz.prog,tt,Tryz.f7.ntmps,pl7, [], [], [], [], []⟩) pok _ Tryz.func7 rfl rfl (Nat.le_of_ble_eq_true rfl) ?_;revert hm;refine VIf.b (fun h1 hm=> ?_) (fun h1 hm=> ?_);cases hm;exact RetY.le (le1);obtain⟨x2,hx3,hm⟩:=bd_some hm;refine CallY.det (d_R01_Lines text _ hx3) ?_;obtain⟨ev217,he,hk218⟩:=bd_some hm;refine LoopY.ofL (m_R01_Parse_L1 x2) (fun(v71,v72,v73,v74)=>⟨[(2, .own 0 0),(5, .own 1 0),(17,lD 1 x2 (fun(x:ByteArray)=> [.v (.string x)])),(18,DI (x2.length:Int)),(19,DI v71)], [(0, .blk [.v (.slice none 0 0), .v (.slice none 0 0)] 25),(1, .blk [.row 2 11, .row 4 5] 25),(2,rE 11 v72 TVersion.c 42),(3,rE 5 v73 TStreet.c 49),(4,rE 5 v74 TStreet.c 49)],5⟩) (0, [], [], []) (SubY.of 2 rfl ⟨tR rfl,tR rfl,tR rfl,tR rfl,tR rfl,trivial⟩ ⟨hR rfl,hR rfl,⟨rfl,rfl⟩,⟨rfl,rfl⟩,⟨rfl,rfl⟩,trivial⟩) he ?_;rintro fu219 ⟨v71,v72,v73,v74⟩ b hm hi220;revert hm;refine VIf.b (fun h221 hm=> ?_) (fun h221 hm=> ?_);obtain⟨e222,hx223,hm⟩:=bd_some hm;refine⟨_,el_idx (fun _=>rfl) hx223, ?_⟩;obtain⟨x224,hx225,hm⟩:=bd_some hm;refine CallY.det (d_R01_Says e222 _ hx225) ?_;revert hm;refine VIf.b (fun h226 hm=> ?_) (fun h226 hm=> ?_);cases hm;exact⟨(_,((W (v71+1)),v72,v73,v74)),SubY.of 5 rfl ⟨tR rfl,tR rfl,tR rfl,tR rfl,tR rfl,trivial⟩ ⟨hR rfl,hR rfl,hW rfl,hW rfl,hW rfl,trivial⟩,hi220,Nat.lt_succ_self _⟩;obtain⟨x227,hx228,hm⟩:=bd_some hm;refine CallY.det (d_R01_Words e222 _ hx228) ?_;obtain⟨hg,hm⟩:=gd_some hm;obtain⟨sl229,hy,hm⟩:=bd_some hm;refine⟨hg,_,(flat_sub (c:=(fun(x:ByteArray)=> [.v (.string x)])) (z:=1) (fun _=>rfl) _ _ _).trans (congrArg _ (Option.some.inj hy)), ?_⟩;have hl:sl229.length=x227.length-(1:Int).toNat:=by rw [←Option.some.inj hy];exact sub_len (by omega)
 rw [←hl];obtain⟨⟨x230,x231⟩,hx232,hm⟩:=bd_some hm;refine CallY.det (d_R01_Numbers sl229 6 _ hx232) ?_;revert hm;refine VIf.b (fun h233 hm=> ?_) (fun h233 hm=> ?_);obtain⟨e234,hx235,hm⟩:=bd_some hm;refine⟨_,el_idx (fun _=>rfl) hx235, ?_⟩;revert hm;refine VIf.b (fun h236 hm=> ?_) (fun h236 hm=> ?_);revert hm;refine VIf.b (fun h237 hm=> ?_) (fun h237 hm=> ?_);refine⟨rfl, ?_⟩;obtain⟨e238,hx239,hm⟩:=bd_some hm;refine⟨_,el_idx (fun _=>rfl) hx239, ?_⟩;obtain⟨e240,hx241,hm⟩:=bd_some hm;refine⟨_,el_idx (fun _=>rfl) hx241, ?_⟩;obtain⟨e242,hx243,hm⟩:=bd_some hm;refine⟨_,el_idx (fun _=>rfl) hx243, ?_⟩;obtain⟨e244,hx245,hm⟩:=bd_some hm;refine⟨_,el_idx (fun _=>rfl) hx245, ?_⟩;obtain⟨e246,hx247,hm⟩:=bd_some hm;refine⟨_,el_idx (fun _=>rfl) hx247, ?_⟩;obtain⟨e248,hx249,hm⟩:=bd_some hm;refine⟨_,el_idx (fun _=>rfl) hx249, ?_⟩;obtain⟨e250,hx251,hm⟩:=bd_some hm;refine⟨_,el_idx (fun _=>rfl) hx251, ?_⟩;obtain⟨e252,hx253,hm⟩:=bd_some hm;refine⟨_,el_idx (fun _=>rfl) hx253, ?_⟩;obtain⟨e254,hx255,hm⟩:=bd_some hm;refine⟨_,el_idx (fun _=>rfl) hx255, ?_⟩;obtain⟨e256,hx257,hm⟩:=bd_some hm;refine⟨_,el_idx (fun _=>rfl) hx257, ?_⟩;obtain⟨e258,hx259,hm⟩:=bd_some hm;refine⟨_,el_idx (fun _=>rfl) hx259, ?_⟩;refine⟨([(⟨e238,e240,e242,(⟨e244,e246⟩:TRange),(⟨e248,e250⟩:TRange),e252,e254,e256,e258⟩:TVersion)]:List TVersion).flatMap TVersion.c,([(⟨e238,e240,e242,(⟨e244,e246⟩:TRange),(⟨e248,e250⟩:TRange),e252,e254,e256,e258⟩:TVersion)]:List TVersion).length,⟨rfl,rfl⟩, ?_⟩;obtain⟨hg,hm⟩:=gd_some hm;refine⟨hg,_,_,flat_app (c:=TVersion.c) (l:=(v72:List TVersion)) (r:=(([(⟨e238,e240,e242,(⟨e244,e246⟩:TRange),(⟨e248,e250⟩:TRange),e252,e254,e256,e258⟩:TVersion)]:List TVersion):List TVersion)), ?_⟩;cases hm;exact⟨(_,((W (v71+1)),(v72++([(⟨e238,e240,e242,(⟨e244,e246⟩:TRange),(⟨e248,e250⟩:TRange),e252,e254,e256,e258⟩:TVersion)]:List TVersion)),v73,v74)),SubY.of 5 rfl ⟨tR rfl,tR rfl,tR rfl,tR rfl,tR rfl,trivial⟩ ⟨hR rfl,hR rfl,hW rfl,hW rfl,hW rfl,trivial⟩,hi220,Nat.lt_succ_self _⟩;refine VIf.t h233 ?_;obtain⟨e260,hx261,hm⟩:=bd_some hm;refine⟨_,el_idx (fun _=>rfl) hx261, ?_⟩;revert hm;refine VIf.b (fun h262 hm=> ?_) (fun h262 hm=> ?_);revert hm;refine VIf.b (fun h263 hm=> ?_) (fun h263 hm=> ?_);refine⟨rfl, ?_⟩;obtain⟨e264,hx265,hm⟩:=bd_some hm;refine⟨_,el_idx (fun _=>rfl) hx265, ?_⟩;obtain⟨e266,hx267,hm⟩:=bd_some hm;refine⟨_,el_idx (fun _=>rfl) hx267, ?_⟩;obtain⟨e268,hx269,hm⟩:=bd_some hm;refine⟨_,el_idx (fun _=>rfl) hx269, ?_⟩;obtain⟨e270,hx271,hm⟩:=bd_some hm;refine⟨_,el_idx (fun _=>rfl) hx271, ?_⟩;obtain⟨e272,hx273,hm⟩:=bd_some hm;refine⟨_,el_idx (fun _=>rfl) hx273, ?_⟩;refine⟨([(⟨e264,e266,e268,e270,e272⟩:TStreet)]:List TStreet).flatMap TStreet.c,([(⟨e264,e266,e268,e270,e272⟩:TStreet)]:List TStreet).length,⟨rfl,rfl⟩, ?_⟩;obtain⟨hg,hm⟩:=gd_some hm;refine⟨hg,_,_,flat_app (c:=TStreet.c) (l:=(v74:List TStreet)) (r:=(([(⟨e264,e266,e268,e270,e272⟩:TStreet)]:List TStreet):List TStreet)), ?_⟩;cases hm;exact⟨(_,((W (v71+1)),v72,v73,(v74++([(⟨e264,e266,e268,e270,e272⟩:TStreet)]:List TStreet)))),SubY.of 5 rfl ⟨tR rfl,tR rfl,tR rfl,tR rfl,tR rfl,trivial⟩ ⟨hR rfl,hR rfl,hW rfl,hW rfl,hW rfl,trivial⟩,hi220,Nat.lt_succ_self _⟩;cases hm;cases hi220;have hm:=hk218;cases hm;exact RetY.le (le1);cases hm;cases hi220;have hm:=hk218;cases hm;exact RetY.le (le1);refine VIf.t h233 ?_;obtain⟨e274,hx275,hm⟩:=bd_some hm;refine⟨_,el_idx (fun _=>rfl) hx275, ?_⟩;revert hm;refine VIf.b (fun h276 hm=> ?_) (fun h276 hm=> ?_);revert hm;refine VIf.b (fun h277 hm=> ?_) (fun h277 hm=> ?_);refine⟨rfl, ?_⟩;obtain⟨e278,hx279,hm⟩:=bd_some hm;refine⟨_,el_idx (fun _=>rfl) hx279, ?_⟩;obtain⟨e280,hx281,hm⟩:=bd_some hm;refine⟨_,el_idx (fun _=>rfl) hx281, ?_⟩;obtain⟨e282,hx283,hm⟩:=bd_some hm;refine⟨_,el_idx (fun _=>rfl) hx283, ?_⟩;obtain⟨e284,hx285,hm⟩:=bd_some hm;refine⟨_,el_idx (fun _=>rfl) hx285, ?_⟩;obtain⟨e286,hx287,hm⟩:=bd_some hm;refine⟨_,el_idx (fun _=>rfl) hx287, ?_⟩;refine⟨([(⟨e278,e280,e282,e284,e286⟩:TStreet)]:List TStreet).flatMap TStreet.c,([(⟨e278,e280,e282,e284,e286⟩:TStreet)]:List TStreet).length,⟨rfl,rfl⟩, ?_⟩;obtain⟨hg,hm⟩:=gd_some hm;refine⟨hg,_,_,flat_app (c:=TStreet.c) (l:=(v74:List TStreet)) (r:=(([(⟨e278,e280,e282,e284,e286⟩:TStreet)]:List TStreet):List TStreet)), ?_⟩;cases hm;exact⟨(_,((W (v71+1)),v72,v73,(v74++([(⟨e278,e280,e282,e284,e286⟩:TStreet)]:List TStreet)))),SubY.of 5 rfl ⟨tR rfl,tR rfl,tR rfl,tR rfl,tR rfl,trivial⟩ ⟨hR rfl,hR rfl,hW rfl,hW rfl,hW rfl,trivial⟩,hi220,Nat.lt_succ_self _⟩;cases hm;cases hi220;have hm:=hk218;cases hm;exact RetY.le (le1);cases hm;cases hi220;have hm:=hk218;cases hm;exact RetY.le (le1);refine VIf.f h233 ?_;cases hm;cases hi220;have hm:=hk218;cases hm;exact RetY.le (le1);cases hm;cases hi220;have hm:=hk218;obtain⟨x288,hx289,hm⟩:=bd_some hm;refine CallOwn.det (d_R01_Check ((⟨v72,v74⟩:TBylaw)) _ hx289) ?_;revert hm;refine VIf.b (fun h290 hm=> ?_) (fun h290 hm=> ?_);cases hm;exact RetY.le (le1);cases hm;exact RetY.le (leD.refl _)
def m_R01_SameBylaw_L1 (a:TBylaw) (b_:TBylaw):Int→Option (Sum Int (Sum Int Bool)):=fun v9=>
 if(decide (v9<(a.Versions.length:Int)))=true then
  Option.bind (idx a.Versions v9) fun e17=>
  Option.bind (idx b_.Versions v9) fun e19=>
  if(!((e17.Source==e19.Source)&&((e17.Class==e19.Class)&&((e17.From==e19.From)&&((e17.On.Lo==e19.On.Lo)&&((e17.On.Hi==e19.On.Hi)&&((e17.Off.Lo==e19.Off.Lo)&&((e17.Off.Hi==e19.Off.Hi)&&((e17.Moon==e19.Moon)&&((e17.Fog==e19.Fog)&&((e17.Known==e19.Known)&&(e17.Until==e19.Until))))))))))))=true then
   some (.inr (.inr false))
  else
   some (.inl (W (v9+1)))
 else
  some (.inr (.inl v9))
def m_R01_SameBylaw_L2 (a:TBylaw) (b_:TBylaw):Int→Option (Sum Int (Sum Int Bool)):=fun v29=>
 if(decide (v29<(a.Streets.length:Int)))=true then
  Option.bind (idx a.Streets v29) fun e37=>
  Option.bind (idx b_.Streets v29) fun e39=>
  if(!((e37.Id==e39.Id)&&((e37.Class==e39.Class)&&((e37.District==e39.District)&&((e37.First==e39.First)&&(e37.Many==e39.Many))))))=true then
   some (.inr (.inr false))
  else
   some (.inl (W (v29+1)))
 else
  some (.inr (.inl v29))
def m_R01_SameBylaw (a:TBylaw) (b_:TBylaw):Option Bool:=
 if((a.Versions.length:Int) !=(b_.Versions.length:Int))=true then
  some false
 else
  if((a.Streets.length:Int) !=(b_.Streets.length:Int))=true then
   some false
  else
   Option.bind (loopF (m_R01_SameBylaw_L1 a b_) 0) fun e=>
   match e with
   | .inl v22=>
    Option.bind (loopF (m_R01_SameBylaw_L2 a b_) 0) fun e=>
    match e with
    | .inl v42=>
     some true
    | .inr rr43=>
     some rr43
   | .inr rr54=>
    some rr54
theorem d_R01_SameBylaw (a:TBylaw) (b_:TBylaw) (r:Bool) (hm:m_R01_SameBylaw a b_=some r):Does Tryz.prog 8 [.agg (TBylaw.c a), .agg (TBylaw.c b_)] (fun x=>x=DB r):=by
 refine does_zy (X:=⟨Tryz.prog,tt,Tryz.f8.ntmps,pl8, [], [], [], [], []⟩) pok _ Tryz.func8 rfl rfl (Nat.le_of_ble_eq_true rfl) ?_;revert hm;refine VIf.b (fun h1 hm=> ?_) (fun h1 hm=> ?_);cases hm;exact RetY.le (leD.refl _);revert hm;refine VIf.b (fun h2 hm=> ?_) (fun h2 hm=> ?_);cases hm;exact RetY.le (leD.refl _);obtain⟨ev55,he,hk56⟩:=bd_some hm;refine LoopY.ofL (m_R01_SameBylaw_L1 a b_) (fun v9=>⟨[(2, .own 0 0),(3, .own 1 0),(25,DI (a.Versions.length:Int)),(26,DI v9)], [(0, .blk [lD 11 a.Versions TVersion.c,lD 5 a.Streets TStreet.c] 25),(1, .blk [lD 11 b_.Versions TVersion.c,lD 5 b_.Streets TStreet.c] 25)],2⟩) 0 (SubY.of 2 rfl ⟨tR rfl,tR rfl,tR rfl,tR rfl,trivial⟩ ⟨hR rfl,hR rfl,trivial⟩) he ?_;rintro fu57 v9 b hm hi58;revert hm;refine VIf.b (fun h59 hm=> ?_) (fun h59 hm=> ?_);refine⟨rfl, ?_⟩;obtain⟨e60,hx61,hm⟩:=bd_some hm;refine⟨_,el_idx (fun _=>rfl) hx61, ?_⟩;obtain⟨e62,hx63,hm⟩:=bd_some hm;refine⟨_,el_idx (fun _=>rfl) hx63, ?_⟩;revert hm;refine VIf.b (fun h64 hm=> ?_) (fun h64 hm=> ?_);cases hm;cases hi58;have hm:=hk56;cases hm;exact RetY.le (leD.refl _);cases hm;exact⟨(_,(W (v9+1))),SubY.of 2 rfl ⟨tR rfl,tR rfl,tR rfl,tR rfl,trivial⟩ ⟨hR rfl,hR rfl,trivial⟩,hi58,Nat.lt_succ_self _⟩;cases hm;cases hi58;have hm:=hk56;obtain⟨ev86,he,hk87⟩:=bd_some hm;refine LoopY.ofL (m_R01_SameBylaw_L2 a b_) (fun v71=>⟨[(2, .own 0 0),(3, .own 1 0),(43,DI (a.Streets.length:Int)),(44,DI v71)], [(0, .blk [lD 11 a.Versions TVersion.c,lD 5 a.Streets TStreet.c] 25),(1, .blk [lD 11 b_.Versions TVersion.c,lD 5 b_.Streets TStreet.c] 25)],2⟩) 0 (SubY.of 2 rfl ⟨tR rfl,tR rfl,tR rfl,tR rfl,trivial⟩ ⟨hR rfl,hR rfl,trivial⟩) he ?_;rintro fu88 v71 b hm hi89;revert hm;refine VIf.b (fun h90 hm=> ?_) (fun h90 hm=> ?_);refine⟨rfl, ?_⟩;obtain⟨e91,hx92,hm⟩:=bd_some hm;refine⟨_,el_idx (fun _=>rfl) hx92, ?_⟩;obtain⟨e93,hx94,hm⟩:=bd_some hm;refine⟨_,el_idx (fun _=>rfl) hx94, ?_⟩;revert hm;refine VIf.b (fun h95 hm=> ?_) (fun h95 hm=> ?_);cases hm;cases hi89;have hm:=hk87;cases hm;exact RetY.le (leD.refl _);cases hm;exact⟨(_,(W (v71+1))),SubY.of 2 rfl ⟨tR rfl,tR rfl,tR rfl,tR rfl,trivial⟩ ⟨hR rfl,hR rfl,trivial⟩,hi89,Nat.lt_succ_self _⟩;cases hm;cases hi89;have hm:=hk87;cases hm;exact RetY.le (leD.refl _)
def m_L01_act:Option TBylaw:=
 some (⟨([(⟨1,1,0,(⟨0,40⟩:TRange),(⟨10,50⟩:TRange),600,30,0,0⟩:TVersion),(⟨2,1,100,(⟨10,30⟩:TRange),(⟨10,50⟩:TRange),1001,30,90,0⟩:TVersion),(⟨5,2,0,(⟨20,25⟩:TRange),(⟨0,5⟩:TRange),0,0,0,200⟩:TVersion)]:List TVersion),([(⟨1,1,1,10,3⟩:TStreet),(⟨2,2,1,20,1⟩:TStreet)]:List TStreet)⟩:TBylaw)
theorem d_L01_act (r:TBylaw) (hm:m_L01_act=some r):Does Tryz.prog 21 [] (fun x=>x= .agg (TBylaw.c r)):=by
 refine does_zy (X:=⟨Tryz.prog,tt,Tryz.f21.ntmps, [], [], [], [], [], []⟩) pok _ Tryz.func21 rfl rfl (Nat.le_of_ble_eq_true rfl) ?_;refine⟨([(⟨1,1,0,(⟨0,40⟩:TRange),(⟨10,50⟩:TRange),600,30,0,0⟩:TVersion),(⟨2,1,100,(⟨10,30⟩:TRange),(⟨10,50⟩:TRange),1001,30,90,0⟩:TVersion),(⟨5,2,0,(⟨20,25⟩:TRange),(⟨0,5⟩:TRange),0,0,0,200⟩:TVersion)]:List TVersion).flatMap TVersion.c,([(⟨1,1,0,(⟨0,40⟩:TRange),(⟨10,50⟩:TRange),600,30,0,0⟩:TVersion),(⟨2,1,100,(⟨10,30⟩:TRange),(⟨10,50⟩:TRange),1001,30,90,0⟩:TVersion),(⟨5,2,0,(⟨20,25⟩:TRange),(⟨0,5⟩:TRange),0,0,0,200⟩:TVersion)]:List TVersion).length,⟨rfl,rfl⟩, ?_⟩;refine⟨([(⟨1,1,1,10,3⟩:TStreet),(⟨2,2,1,20,1⟩:TStreet)]:List TStreet).flatMap TStreet.c,([(⟨1,1,1,10,3⟩:TStreet),(⟨2,2,1,20,1⟩:TStreet)]:List TStreet).length,⟨rfl,rfl⟩, ?_⟩;cases hm;exact RetY.le (leD.refl _)
def m_L01_night:Option TNight:=
 some (⟨50,(⟨300,310⟩:TRange),(⟨1080,1085⟩:TRange),(⟨500,700⟩:TRange),0⟩:TNight)
theorem d_L01_night (r:TNight) (hm:m_L01_night=some r):Does Tryz.prog 22 [] (fun x=>x= .agg (TNight.c r)):=by
 refine does_zy (X:=⟨Tryz.prog,tt,Tryz.f22.ntmps, [], [], [], [], [], []⟩) pok _ Tryz.func22 rfl rfl (Nat.le_of_ble_eq_true rfl) ?_;cases hm;exact RetY.le (leD.refl _)
def m_bylaw_CheckNight (n:TNight):Option Int:=
 Option.bind (m_bylaw_isNight n.No) fun x1=>
 if(!x1)=true then
  some 12
 else
  Option.bind (m_bylaw_isRange n.Set 1439) fun x4=>
  if(!x4)=true then
   some 12
  else
   Option.bind (m_bylaw_isRange n.Rise 1439) fun x7=>
   if(!x7)=true then
    some 12
   else
    if(decide (n.Set.Hi>n.Rise.Lo))=true then
     some 12
    else
     Option.bind (m_bylaw_isRange n.Light 1000) fun x11=>
     if(!x11)=true then
      some 12
     else
      Option.bind (m_bylaw_in n.Fog 0 2) fun x14=>
      if(!x14)=true then
       some 12
      else
       some 0
theorem d_bylaw_CheckNight (n:TNight) (r:Int) (hm:m_bylaw_CheckNight n=some r):Does Tryz.prog 55 [.agg (TNight.c n)] (fun x=>x=DI r):=by
 refine does_zy (X:=⟨Tryz.prog,tt,Tryz.f55.ntmps, [], [], [], [], [], []⟩) pok _ Tryz.func55 rfl rfl (Nat.le_of_ble_eq_true rfl) ?_;obtain⟨x1,hx2,hm⟩:=bd_some hm;refine CallY.det (d_bylaw_isNight n.No _ hx2) ?_;revert hm;refine VIf.b (fun h3 hm=> ?_) (fun h3 hm=> ?_);cases hm;exact RetY.le (leD.refl _);obtain⟨x4,hx5,hm⟩:=bd_some hm;refine CallY.det (d_bylaw_isRange n.Set 1439 _ hx5) ?_;revert hm;refine VIf.b (fun h6 hm=> ?_) (fun h6 hm=> ?_);cases hm;exact RetY.le (leD.refl _);obtain⟨x7,hx8,hm⟩:=bd_some hm;refine CallY.det (d_bylaw_isRange n.Rise 1439 _ hx8) ?_;revert hm;refine VIf.b (fun h9 hm=> ?_) (fun h9 hm=> ?_);cases hm;exact RetY.le (leD.refl _);revert hm;refine VIf.b (fun h10 hm=> ?_) (fun h10 hm=> ?_);cases hm;exact RetY.le (leD.refl _);obtain⟨x11,hx12,hm⟩:=bd_some hm;refine CallY.det (d_bylaw_isRange n.Light 1000 _ hx12) ?_;revert hm;refine VIf.b (fun h13 hm=> ?_) (fun h13 hm=> ?_);cases hm;exact RetY.le (leD.refl _);obtain⟨x14,hx15,hm⟩:=bd_some hm;refine CallY.det (d_bylaw_in n.Fog 0 2 _ hx15) ?_;revert hm;refine VIf.b (fun h16 hm=> ?_) (fun h16 hm=> ?_);cases hm;exact RetY.le (leD.refl _);cases hm;exact RetY.le (leD.refl _)
def m_bylaw_streetOf_1 (s:TStreet) (c_0:Int):Option Bool:=
 Option.bind (m_bylaw_has s c_0) fun x1=>
 some x1
theorem d_bylaw_streetOf_1 (s:TStreet) (c_0:Int) (r:Bool) (hm:m_bylaw_streetOf_1 s c_0=some r):Does Tryz.prog 103 [.agg (TStreet.c s), .ptr [DI c_0] 0] (fun x=>x=DB r):=by
 refine does_zy (X:=⟨Tryz.prog,tt,Tryz.f103.ntmps, [], [], [], [], [], []⟩) pok _ Tryz.func103 rfl rfl (Nat.le_of_ble_eq_true rfl) ?_;obtain⟨x1,hx2,hm⟩:=bd_some hm;refine CallY.det (d_bylaw_has s c_0 _ hx2) ?_;cases hm;exact RetY.le (leD.refl _)
def m_slices_IndexFunc_api_Street_api_Street__bylaw_streetOf_1_L1 (s:(List TStreet)) (c1_0:Int):Int→Option (Sum Int (Sum Int Int)):=fun v7=>
 if(decide (v7<(s.length:Int)))=true then
  Option.bind (idx s v7) fun e15=>
  Option.bind (m_bylaw_streetOf_1 e15 c1_0) fun x17=>
  if x17=true then
   some (.inr (.inr v7))
  else
   some (.inl (W (v7+1)))
 else
  some (.inr (.inl v7))
def m_slices_IndexFunc_api_Street_api_Street__bylaw_streetOf_1 (s:(List TStreet)) (c1_0:Int):Option Int:=
 Option.bind (loopF (m_slices_IndexFunc_api_Street_api_Street__bylaw_streetOf_1_L1 s c1_0) 0) fun e=>
 match e with
 | .inl v20=>
  some (-1)
 | .inr rr21=>
  some rr21
theorem d_slices_IndexFunc_api_Street_api_Street__bylaw_streetOf_1 (s:(List TStreet)) (c1_0:Int) (r:Int) (hm:m_slices_IndexFunc_api_Street_api_Street__bylaw_streetOf_1 s c1_0=some r):Does Tryz.prog 102 [lD 5 s TStreet.c, .fn 103 [] [.ptr [DI c1_0] 0]] (fun x=>x=DI r):=by
 refine does_zy (X:=⟨Tryz.prog,tt,Tryz.f102.ntmps, [], [], [], [], [], []⟩) pok _ Tryz.func102 rfl rfl (Nat.le_of_ble_eq_true rfl) ?_;obtain⟨ev22,he,hk23⟩:=bd_some hm;refine LoopY.ofL (m_slices_IndexFunc_api_Street_api_Street__bylaw_streetOf_1_L1 s c1_0) (fun v7=>⟨[(0,lD 5 s TStreet.c),(1, .fn 103 [] [.ptr [DI c1_0] 0]),(7,DI (s.length:Int)),(8,DI v7)], [],0⟩) 0 (SubY.of 0 rfl ⟨tR rfl,tR rfl,tR rfl,tR rfl,trivial⟩ trivial) he ?_;rintro fu24 v7 b hm hi25;revert hm;refine VIf.b (fun h26 hm=> ?_) (fun h26 hm=> ?_);obtain⟨e27,hx28,hm⟩:=bd_some hm;refine⟨_,el_idx (fun _=>rfl) hx28, ?_⟩;obtain⟨x29,hx30,hm⟩:=bd_some hm;refine CallY.det (d_bylaw_streetOf_1 e27 c1_0 _ hx30) ?_;revert hm;refine VIf.b (fun h31 hm=> ?_) (fun h31 hm=> ?_);cases hm;cases hi25;have hm:=hk23;cases hm;exact RetY.le (leD.refl _);cases hm;exact⟨(_,(W (v7+1))),SubY.of 0 rfl ⟨tR rfl,tR rfl,tR rfl,tR rfl,trivial⟩ trivial,hi25,Nat.lt_succ_self _⟩;cases hm;cases hi25;have hm:=hk23;cases hm;exact RetY.le (leD.refl _)
def m_bylaw_streetOf (b_:TBylaw) (lamp:Int):Option (TStreet×Int):=
 Option.bind (m_slices_IndexFunc_api_Street_api_Street__bylaw_streetOf_1 b_.Streets lamp) fun x1=>
 if(decide (x1<0))=true then
  some ((⟨0,0,0,0,0⟩:TStreet),15)
 else
  Option.bind (idx b_.Streets x1) fun e4=>
  some (e4,0)
theorem d_bylaw_streetOf (b_:TBylaw) (lamp:Int) (r:(TStreet×Int)) (hm:m_bylaw_streetOf b_ lamp=some r):Does Tryz.prog 86 [.agg (TBylaw.c b_),DI lamp] (fun x=>x= .tup [.agg (TStreet.c r.1),DI r.2]):=by
 refine does_zy (X:=⟨Tryz.prog,tt,Tryz.f86.ntmps, [], [], [], [], [], []⟩) pok _ Tryz.func86 rfl rfl (Nat.le_of_ble_eq_true rfl) ?_;obtain⟨x1,hx2,hm⟩:=bd_some hm;refine CallOwn.det (d_slices_IndexFunc_api_Street_api_Street__bylaw_streetOf_1 b_.Streets lamp _ hx2) ?_;revert hm;refine VIf.b (fun h3 hm=> ?_) (fun h3 hm=> ?_);cases hm;exact RetY.le (leD.refl _);obtain⟨e4,hx5,hm⟩:=bd_some hm;refine⟨_,el_idx (fun _=>rfl) hx5, ?_⟩;cases hm;exact RetY.le (leD.refl _)
def m_bylaw_inForce_L1 (b_:TBylaw) (class_:Int) (night:Int) (known:Int):(Int×Int×Int×Int×Int×Int×Int×Int×Int×Int×Int×Int)→Option (Sum (Int×Int×Int×Int×Int×Int×Int×Int×Int×Int×Int×Int) (Int×Int×Int×Int×Int×Int×Int×Int×Int×Int×Int×Int)):=fun(v11,v12,v13,v14,v15,v16,v17,v18,v19,v20,v21,v22)=>
 if(decide (v11<(b_.Versions.length:Int)))=true then
  Option.bind (idx b_.Versions v11) fun e34=>
  if(e34.Class==class_)=true then
   if(decide (e34.From≤night))=true then
    if(decide (e34.Known≤known))=true then
     if(e34.Until==0)=true then
      if(decide (e34.From≥v14))=true then
       some (.inl ((W (v11+1)),e34.Source,e34.Class,e34.From,e34.On.Lo,e34.On.Hi,e34.Off.Lo,e34.Off.Hi,e34.Moon,e34.Fog,e34.Known,e34.Until))
      else
       some (.inl ((W (v11+1)),v12,v13,v14,v15,v16,v17,v18,v19,v20,v21,v22))
     else
      if(decide (e34.Until>known))=true then
       if(decide (e34.From≥v14))=true then
        some (.inl ((W (v11+1)),e34.Source,e34.Class,e34.From,e34.On.Lo,e34.On.Hi,e34.Off.Lo,e34.Off.Hi,e34.Moon,e34.Fog,e34.Known,e34.Until))
       else
        some (.inl ((W (v11+1)),v12,v13,v14,v15,v16,v17,v18,v19,v20,v21,v22))
      else
       some (.inl ((W (v11+1)),v12,v13,v14,v15,v16,v17,v18,v19,v20,v21,v22))
    else
     some (.inl ((W (v11+1)),v12,v13,v14,v15,v16,v17,v18,v19,v20,v21,v22))
   else
    some (.inl ((W (v11+1)),v12,v13,v14,v15,v16,v17,v18,v19,v20,v21,v22))
  else
   some (.inl ((W (v11+1)),v12,v13,v14,v15,v16,v17,v18,v19,v20,v21,v22))
 else
  some (.inr (v11,v12,v13,v14,v15,v16,v17,v18,v19,v20,v21,v22))
def m_bylaw_inForce (b_:TBylaw) (class_:Int) (night:Int) (known:Int):Option (TVersion×Int):=
 Option.bind (loopF (m_bylaw_inForce_L1 b_ class_ night known) (0,0,0,0,0,0,0,0,0,0,0,0)) fun(v43,v44,v45,v46,v47,v48,v49,v50,v51,v52,v53,v54)=>
 if((v44==0)&&((v45==0)&&((v46==0)&&((v47==0)&&((v48==0)&&((v49==0)&&((v50==0)&&((v51==0)&&((v52==0)&&((v53==0)&&(v54==0)))))))))))=true then
  some ((⟨v44,v45,v46,(⟨v47,v48⟩:TRange),(⟨v49,v50⟩:TRange),v51,v52,v53,v54⟩:TVersion),14)
 else
  some ((⟨v44,v45,v46,(⟨v47,v48⟩:TRange),(⟨v49,v50⟩:TRange),v51,v52,v53,v54⟩:TVersion),0)
theorem d_bylaw_inForce (b_:TBylaw) (class_:Int) (night:Int) (known:Int) (r:(TVersion×Int)) (hm:m_bylaw_inForce b_ class_ night known=some r):Does Tryz.prog 101 [.agg (TBylaw.c b_),DI class_,DI night,DI known] (fun x=>x= .tup [.agg (TVersion.c r.1),DI r.2]):=by
 refine does_zy (X:=⟨Tryz.prog,tt,Tryz.f101.ntmps, [], [], [], [], [], []⟩) pok _ Tryz.func101 rfl rfl (Nat.le_of_ble_eq_true rfl) ?_;obtain⟨ev56,he,hk57⟩:=bd_some hm;refine LoopY.ofL (m_bylaw_inForce_L1 b_ class_ night known) (fun(v11,v12,v13,v14,v15,v16,v17,v18,v19,v20,v21,v22)=>⟨[(1,DI class_),(2,DI night),(3,DI known),(8, .own 1 0),(10, .own 2 0),(14,lD 11 b_.Versions TVersion.c),(15,DI (b_.Versions.length:Int)),(16,DI v11)], [(1, .blk [DI 0,DI 0,DI 0,DI 0,DI 0,DI 0,DI 0,DI 0,DI 0,DI 0,DI 0] 42),(2, .blk [DI v12,DI v13,DI v14,DI v15,DI v16,DI v17,DI v18,DI v19,DI v20,DI v21,DI v22] 42)],3⟩) (0,0,0,0,0,0,0,0,0,0,0,0) (SubY.of 3 rfl ⟨tR rfl,tR rfl,tR rfl,tR rfl,tR rfl,tR rfl,tR rfl,tR rfl,trivial⟩ ⟨hR rfl,hR rfl,trivial⟩) he ?_;rintro fu58 ⟨v11,v12,v13,v14,v15,v16,v17,v18,v19,v20,v21,v22⟩ b hm hi59;revert hm;refine VIf.b (fun h60 hm=> ?_) (fun h60 hm=> ?_);obtain⟨e61,hx62,hm⟩:=bd_some hm;refine⟨_,el_idx (fun _=>rfl) hx62, ?_⟩;revert hm;refine VIf.b (fun h63 hm=> ?_) (fun h63 hm=> ?_);revert hm;refine VIf.b (fun h64 hm=> ?_) (fun h64 hm=> ?_);revert hm;refine VIf.b (fun h65 hm=> ?_) (fun h65 hm=> ?_);revert hm;refine VIf.b (fun h66 hm=> ?_) (fun h66 hm=> ?_);revert hm;refine VIf.b (fun h67 hm=> ?_) (fun h67 hm=> ?_);cases hm;exact⟨(_,((W (v11+1)),e61.Source,e61.Class,e61.From,e61.On.Lo,e61.On.Hi,e61.Off.Lo,e61.Off.Hi,e61.Moon,e61.Fog,e61.Known,e61.Until)),SubY.of 3 rfl ⟨tR rfl,tR rfl,tR rfl,tR rfl,tR rfl,tR rfl,tR rfl,tR rfl,trivial⟩ ⟨hR rfl,hR rfl,trivial⟩,hi59,Nat.lt_succ_self _⟩;cases hm;exact⟨(_,((W (v11+1)),v12,v13,v14,v15,v16,v17,v18,v19,v20,v21,v22)),SubY.of 3 rfl ⟨tR rfl,tR rfl,tR rfl,tR rfl,tR rfl,tR rfl,tR rfl,tR rfl,trivial⟩ ⟨hR rfl,hR rfl,trivial⟩,hi59,Nat.lt_succ_self _⟩;revert hm;refine VIf.b (fun h68 hm=> ?_) (fun h68 hm=> ?_);revert hm;refine VIf.b (fun h69 hm=> ?_) (fun h69 hm=> ?_);cases hm;exact⟨(_,((W (v11+1)),e61.Source,e61.Class,e61.From,e61.On.Lo,e61.On.Hi,e61.Off.Lo,e61.Off.Hi,e61.Moon,e61.Fog,e61.Known,e61.Until)),SubY.of 3 rfl ⟨tR rfl,tR rfl,tR rfl,tR rfl,tR rfl,tR rfl,tR rfl,tR rfl,trivial⟩ ⟨hR rfl,hR rfl,trivial⟩,hi59,Nat.lt_succ_self _⟩;cases hm;exact⟨(_,((W (v11+1)),v12,v13,v14,v15,v16,v17,v18,v19,v20,v21,v22)),SubY.of 3 rfl ⟨tR rfl,tR rfl,tR rfl,tR rfl,tR rfl,tR rfl,tR rfl,tR rfl,trivial⟩ ⟨hR rfl,hR rfl,trivial⟩,hi59,Nat.lt_succ_self _⟩;cases hm;exact⟨(_,((W (v11+1)),v12,v13,v14,v15,v16,v17,v18,v19,v20,v21,v22)),SubY.of 3 rfl ⟨tR rfl,tR rfl,tR rfl,tR rfl,tR rfl,tR rfl,tR rfl,tR rfl,trivial⟩ ⟨hR rfl,hR rfl,trivial⟩,hi59,Nat.lt_succ_self _⟩;cases hm;exact⟨(_,((W (v11+1)),v12,v13,v14,v15,v16,v17,v18,v19,v20,v21,v22)),SubY.of 3 rfl ⟨tR rfl,tR rfl,tR rfl,tR rfl,tR rfl,tR rfl,tR rfl,tR rfl,trivial⟩ ⟨hR rfl,hR rfl,trivial⟩,hi59,Nat.lt_succ_self _⟩;cases hm;exact⟨(_,((W (v11+1)),v12,v13,v14,v15,v16,v17,v18,v19,v20,v21,v22)),SubY.of 3 rfl ⟨tR rfl,tR rfl,tR rfl,tR rfl,tR rfl,tR rfl,tR rfl,tR rfl,trivial⟩ ⟨hR rfl,hR rfl,trivial⟩,hi59,Nat.lt_succ_self _⟩;cases hm;exact⟨(_,((W (v11+1)),v12,v13,v14,v15,v16,v17,v18,v19,v20,v21,v22)),SubY.of 3 rfl ⟨tR rfl,tR rfl,tR rfl,tR rfl,tR rfl,tR rfl,tR rfl,tR rfl,trivial⟩ ⟨hR rfl,hR rfl,trivial⟩,hi59,Nat.lt_succ_self _⟩;cases hm;cases hi59;have hm:=hk57;revert hm;refine VIf.b (fun h70 hm=> ?_) (fun h70 hm=> ?_);cases hm;exact RetY.le (leD.refl _);cases hm;exact RetY.le (leD.refl _)
def m_bylaw_known (b_:TBylaw) (lamp:Int) (n:TNight) (night:Int):Option (Twindow×Int):=
 Option.bind (m_bylaw_streetOf b_ lamp) fun⟨x1,x2⟩=>
 if(x2 !=0)=true then
  some ((⟨(⟨0,0,0,(⟨0,0⟩:TRange),(⟨0,0⟩:TRange),0,0,0,0⟩:TVersion),(⟨0,(⟨0,0⟩:TRange),(⟨0,0⟩:TRange),(⟨0,0⟩:TRange),0⟩:TNight)⟩:Twindow),x2)
 else
  Option.bind (m_bylaw_inForce b_ x1.Class n.No night) fun⟨x5,x6⟩=>
  some ((⟨x5,n⟩:Twindow),x6)
theorem d_bylaw_known (b_:TBylaw) (lamp:Int) (n:TNight) (night:Int) (r:(Twindow×Int)) (hm:m_bylaw_known b_ lamp n night=some r):Does Tryz.prog 79 [.agg (TBylaw.c b_),DI lamp, .agg (TNight.c n),DI night] (fun x=>x= .tup [.agg (Twindow.c r.1),DI r.2]):=by
 refine does_zy (X:=⟨Tryz.prog,tt,Tryz.f79.ntmps, [], [], [], [], [], []⟩) pok _ Tryz.func79 rfl rfl (Nat.le_of_ble_eq_true rfl) ?_;obtain⟨⟨x1,x2⟩,hx3,hm⟩:=bd_some hm;refine CallY.det (d_bylaw_streetOf b_ lamp _ hx3) ?_;revert hm;refine VIf.b (fun h4 hm=> ?_) (fun h4 hm=> ?_);cases hm;exact RetY.le (leD.refl _);obtain⟨⟨x5,x6⟩,hx7,hm⟩:=bd_some hm;refine CallY.det (d_bylaw_inForce b_ x1.Class n.No night _ hx7) ?_;cases hm;exact RetY.le (leD.refl _)
def m_bylaw_look (b_:TBylaw) (lamp:Int) (n:TNight) (night:Int):Option (Twindow×Int):=
 Option.bind (m_bylaw_Check b_) fun x1=>
 if(x1 !=0)=true then
  some ((⟨(⟨0,0,0,(⟨0,0⟩:TRange),(⟨0,0⟩:TRange),0,0,0,0⟩:TVersion),(⟨0,(⟨0,0⟩:TRange),(⟨0,0⟩:TRange),(⟨0,0⟩:TRange),0⟩:TNight)⟩:Twindow),x1)
 else
  Option.bind (m_bylaw_CheckNight n) fun x4=>
  if(x4 !=0)=true then
   some ((⟨(⟨0,0,0,(⟨0,0⟩:TRange),(⟨0,0⟩:TRange),0,0,0,0⟩:TVersion),(⟨0,(⟨0,0⟩:TRange),(⟨0,0⟩:TRange),(⟨0,0⟩:TRange),0⟩:TNight)⟩:Twindow),x4)
  else
   Option.bind (m_bylaw_isNight night) fun x7=>
   if(!x7)=true then
    some ((⟨(⟨0,0,0,(⟨0,0⟩:TRange),(⟨0,0⟩:TRange),0,0,0,0⟩:TVersion),(⟨0,(⟨0,0⟩:TRange),(⟨0,0⟩:TRange),(⟨0,0⟩:TRange),0⟩:TNight)⟩:Twindow),6)
   else
    Option.bind (m_bylaw_known b_ lamp n night) fun⟨x10,x11⟩=>
    some (x10,x11)
theorem d_bylaw_look (b_:TBylaw) (lamp:Int) (n:TNight) (night:Int) (r:(Twindow×Int)) (hm:m_bylaw_look b_ lamp n night=some r):Does Tryz.prog 49 [.agg (TBylaw.c b_),DI lamp, .agg (TNight.c n),DI night] (fun x=>x= .tup [.agg (Twindow.c r.1),DI r.2]):=by
 refine does_zy (X:=⟨Tryz.prog,tt,Tryz.f49.ntmps, [], [], [], [], [], []⟩) pok _ Tryz.func49 rfl rfl (Nat.le_of_ble_eq_true rfl) ?_;obtain⟨x1,hx2,hm⟩:=bd_some hm;refine CallY.det (d_bylaw_Check b_ _ hx2) ?_;revert hm;refine VIf.b (fun h3 hm=> ?_) (fun h3 hm=> ?_);cases hm;exact RetY.le (leD.refl _);obtain⟨x4,hx5,hm⟩:=bd_some hm;refine CallY.det (d_bylaw_CheckNight n _ hx5) ?_;revert hm;refine VIf.b (fun h6 hm=> ?_) (fun h6 hm=> ?_);cases hm;exact RetY.le (leD.refl _);obtain⟨x7,hx8,hm⟩:=bd_some hm;refine CallY.det (d_bylaw_isNight night _ hx8) ?_;revert hm;refine VIf.b (fun h9 hm=> ?_) (fun h9 hm=> ?_);cases hm;exact RetY.le (leD.refl _);obtain⟨⟨x10,x11⟩,hx12,hm⟩:=bd_some hm;refine CallY.det (d_bylaw_known b_ lamp n night _ hx12) ?_;cases hm;exact RetY.le (leD.refl _)
def m_bylaw_window_lit (w:Twindow):Option Int:=
 if(w.n.Fog==1)=true then
  some 1
 else
  if(decide (w.n.Light.Hi<w.v.Moon))=true then
   some 1
  else
   if(w.n.Fog==0)=true then
    if(decide (w.n.Light.Lo≥w.v.Moon))=true then
     some 0
    else
     some 2
   else
    some 2
theorem d_bylaw_window_lit (w:Twindow) (r:Int) (hm:m_bylaw_window_lit w=some r):Does Tryz.prog 50 [.agg (Twindow.c w)] (fun x=>x=DI r):=by
 refine does_zy (X:=⟨Tryz.prog,tt,Tryz.f50.ntmps, [], [], [], [], [], []⟩) pok _ Tryz.func50 rfl rfl (Nat.le_of_ble_eq_true rfl) ?_;revert hm;refine VIf.b (fun h1 hm=> ?_) (fun h1 hm=> ?_);cases hm;exact RetY.le (leD.refl _);revert hm;refine VIf.b (fun h2 hm=> ?_) (fun h2 hm=> ?_);cases hm;exact RetY.le (leD.refl _);revert hm;refine VIf.b (fun h3 hm=> ?_) (fun h3 hm=> ?_);revert hm;refine VIf.b (fun h4 hm=> ?_) (fun h4 hm=> ?_);cases hm;exact RetY.le (leD.refl _);cases hm;exact RetY.le (leD.refl _);cases hm;exact RetY.le (leD.refl _)
def m_bylaw_Lit (b_:TBylaw) (lamp:Int) (n:TNight) (night:Int):Option (Int×Int):=
 Option.bind (m_bylaw_look b_ lamp n night) fun⟨x1,x2⟩=>
 if(x2 !=0)=true then
  some (0,x2)
 else
  Option.bind (m_bylaw_window_lit x1) fun x5=>
  some (x5,0)
theorem d_bylaw_Lit (b_:TBylaw) (lamp:Int) (n:TNight) (night:Int) (r:(Int×Int)) (hm:m_bylaw_Lit b_ lamp n night=some r):Does Tryz.prog 23 [.agg (TBylaw.c b_),DI lamp, .agg (TNight.c n),DI night] (fun x=>x= .tup [DI r.1,DI r.2]):=by
 refine does_zy (X:=⟨Tryz.prog,tt,Tryz.f23.ntmps, [], [], [], [], [], []⟩) pok _ Tryz.func23 rfl rfl (Nat.le_of_ble_eq_true rfl) ?_;obtain⟨⟨x1,x2⟩,hx3,hm⟩:=bd_some hm;refine CallY.det (d_bylaw_look b_ lamp n night _ hx3) ?_;revert hm;refine VIf.b (fun h4 hm=> ?_) (fun h4 hm=> ?_);cases hm;exact RetY.le (leD.refl _);obtain⟨x5,hx6,hm⟩:=bd_some hm;refine CallY.det (d_bylaw_window_lit x1 _ hx6) ?_;cases hm;exact RetY.le (leD.refl _)
def m_bylaw_clip (low:Int) (high:Int):Option TRange:=
 some (⟨(if 0>low then 0 else low),(if 1439<high then 1439 else high)⟩:TRange)
theorem d_bylaw_clip (low:Int) (high:Int) (r:TRange) (hm:m_bylaw_clip low high=some r):Does Tryz.prog 80 [DI low,DI high] (fun x=>x= .agg (TRange.c r)):=by
 refine does_zy (X:=⟨Tryz.prog,tt,Tryz.f80.ntmps, [], [], [], [], [], []⟩) pok _ Tryz.func80 rfl rfl (Nat.le_of_ble_eq_true rfl) ?_;cases hm;exact RetY.le (leD.refl _)
def m_bylaw_window_fog_L1 (w:Twindow) (answers:(List Int)):Int→Option (Sum Int (Sum Int Int)):=fun v5=>
 if(decide (v5<(answers.length:Int)))=true then
  Option.bind (idx answers v5) fun e11=>
  if(w.n.Fog==e11)=true then
   some (.inr (.inr w.v.Fog))
  else
   some (.inl (W (v5+1)))
 else
  some (.inr (.inl v5))
def m_bylaw_window_fog (w:Twindow) (answers:(List Int)):Option Int:=
 Option.bind (loopF (m_bylaw_window_fog_L1 w answers) 0) fun e=>
 match e with
 | .inl v14=>
  some 0
 | .inr rr15=>
  some rr15
theorem d_bylaw_window_fog (w:Twindow) (answers:(List Int)) (r:Int) (hm:m_bylaw_window_fog w answers=some r):Does Tryz.prog 81 [.agg (Twindow.c w),lD 1 answers cI] (fun x=>x=DI r):=by
 refine does_zy (X:=⟨Tryz.prog,tt,Tryz.f81.ntmps, [], [], [], [], [], []⟩) pok _ Tryz.func81 rfl rfl (Nat.le_of_ble_eq_true rfl) ?_;obtain⟨ev16,he,hk17⟩:=bd_some hm;refine LoopY.ofL (m_bylaw_window_fog_L1 w answers) (fun v5=>⟨[(2, .own 0 0),(7,lD 1 answers cI),(8,DI (answers.length:Int)),(9,DI v5)], [(0, .blk [DI w.v.Source,DI w.v.Class,DI w.v.From,DI w.v.On.Lo,DI w.v.On.Hi,DI w.v.Off.Lo,DI w.v.Off.Hi,DI w.v.Moon,DI w.v.Fog,DI w.v.Known,DI w.v.Until,DI w.n.No,DI w.n.Set.Lo,DI w.n.Set.Hi,DI w.n.Rise.Lo,DI w.n.Rise.Hi,DI w.n.Light.Lo,DI w.n.Light.Hi,DI w.n.Fog] 90)],1⟩) 0 (SubY.of 1 rfl ⟨tR rfl,tR rfl,tR rfl,tR rfl,trivial⟩ ⟨hR rfl,trivial⟩) he ?_;rintro fu18 v5 b hm hi19;revert hm;refine VIf.b (fun h20 hm=> ?_) (fun h20 hm=> ?_);obtain⟨e21,hx22,hm⟩:=bd_some hm;refine⟨_,el_idx (fun _=>rfl) hx22, ?_⟩;revert hm;refine VIf.b (fun h23 hm=> ?_) (fun h23 hm=> ?_);cases hm;cases hi19;have hm:=hk17;cases hm;exact RetY.le (leD.refl _);cases hm;exact⟨(_,(W (v5+1))),SubY.of 1 rfl ⟨tR rfl,tR rfl,tR rfl,tR rfl,trivial⟩ ⟨hR rfl,trivial⟩,hi19,Nat.lt_succ_self _⟩;cases hm;cases hi19;have hm:=hk17;cases hm;exact RetY.le (leD.refl _)
def m_bylaw_window_on (w:Twindow):Option TRange:=
 Option.bind (m_bylaw_window_fog w ([1]:List Int)) fun x1=>
 Option.bind (m_bylaw_window_fog w ([1,2]:List Int)) fun x3=>
 Option.bind (m_bylaw_clip (W ((W (w.n.Set.Hi+w.v.On.Lo))-x1)) (W ((W (w.n.Set.Lo+w.v.On.Hi))-x3))) fun x5=>
 some x5
theorem d_bylaw_window_on (w:Twindow) (r:TRange) (hm:m_bylaw_window_on w=some r):Does Tryz.prog 52 [.agg (Twindow.c w)] (fun x=>x= .agg (TRange.c r)):=by
 refine does_zy (X:=⟨Tryz.prog,tt,Tryz.f52.ntmps,pl52, [], [], [], [], []⟩) pok _ Tryz.func52 rfl rfl (Nat.le_of_ble_eq_true rfl) ?_;refine⟨rfl, ?_⟩;refine⟨?_, ?_⟩;refine⟨([1]:List Int).flatMap cI,([1]:List Int).length,⟨rfl,rfl⟩, ?_⟩;refine⟨?_, ?_⟩;obtain⟨x1,hx2,hm⟩:=bd_some hm;refine CallOwn.det (d_bylaw_window_fog w (([1]:List Int)) _ hx2) ?_;refine⟨([1,2]:List Int).flatMap cI,([1,2]:List Int).length,⟨rfl,rfl⟩, ?_⟩;obtain⟨x3,hx4,hm⟩:=bd_some hm;refine CallOwn.det (d_bylaw_window_fog w (([1,2]:List Int)) _ hx4) ?_;obtain⟨x5,hx6,hm⟩:=bd_some hm;refine CallY.det (d_bylaw_clip (W ((W (w.n.Set.Hi+w.v.On.Lo))-x1)) (W ((W (w.n.Set.Lo+w.v.On.Hi))-x3)) _ hx6) ?_;cases hm;exact RetY.le (leD.refl _);refine⟨([1,2]:List Int).flatMap cI,([1,2]:List Int).length,⟨rfl,rfl⟩, ?_⟩;obtain⟨x7,hx8,hm⟩:=bd_some hm;refine CallOwn.det (d_bylaw_window_fog w (([1]:List Int)) _ hx8) ?_;obtain⟨x9,hx10,hm⟩:=bd_some hm;refine CallOwn.det (d_bylaw_window_fog w (([1,2]:List Int)) _ hx10) ?_;obtain⟨x11,hx12,hm⟩:=bd_some hm;refine CallY.det (d_bylaw_clip (W ((W (w.n.Set.Hi+w.v.On.Lo))-x7)) (W ((W (w.n.Set.Lo+w.v.On.Hi))-x9)) _ hx12) ?_;cases hm;exact RetY.le (leD.refl _);refine⟨([1,2]:List Int).flatMap cI,([1,2]:List Int).length,⟨rfl,rfl⟩, ?_⟩;refine⟨([1]:List Int).flatMap cI,([1]:List Int).length,⟨rfl,rfl⟩, ?_⟩;obtain⟨x13,hx14,hm⟩:=bd_some hm;refine CallOwn.det (d_bylaw_window_fog w (([1]:List Int)) _ hx14) ?_;obtain⟨x15,hx16,hm⟩:=bd_some hm;refine CallOwn.det (d_bylaw_window_fog w (([1,2]:List Int)) _ hx16) ?_;obtain⟨x17,hx18,hm⟩:=bd_some hm;refine CallY.det (d_bylaw_clip (W ((W (w.n.Set.Hi+w.v.On.Lo))-x13)) (W ((W (w.n.Set.Lo+w.v.On.Hi))-x15)) _ hx18) ?_;cases hm;exact RetY.le (leD.refl _)
def m_bylaw_window_minutes__bylaw_window_on (w:Twindow) (c1_0:Twindow):Option (TRange×Int):=
 Option.bind (m_bylaw_window_lit w) fun x1=>
 if(x1==0)=true then
  some ((⟨0,0⟩:TRange),18)
 else
  Option.bind (m_bylaw_window_on c1_0) fun x4=>
  if(decide (x4.Lo>x4.Hi))=true then
   some ((⟨0,0⟩:TRange),16)
  else
   some (x4,0)
theorem d_bylaw_window_minutes__bylaw_window_on (w:Twindow) (c1_0:Twindow) (r:(TRange×Int)) (hm:m_bylaw_window_minutes__bylaw_window_on w c1_0=some r):Does Tryz.prog 51 [.agg (Twindow.c w), .fn 52 [.agg [DI c1_0.v.Source,DI c1_0.v.Class,DI c1_0.v.From,DI c1_0.v.On.Lo,DI c1_0.v.On.Hi,DI c1_0.v.Off.Lo,DI c1_0.v.Off.Hi,DI c1_0.v.Moon,DI c1_0.v.Fog,DI c1_0.v.Known,DI c1_0.v.Until,DI c1_0.n.No,DI c1_0.n.Set.Lo,DI c1_0.n.Set.Hi,DI c1_0.n.Rise.Lo,DI c1_0.n.Rise.Hi,DI c1_0.n.Light.Lo,DI c1_0.n.Light.Hi,DI c1_0.n.Fog]] []] (fun x=>x= .tup [.agg (TRange.c r.1),DI r.2]):=by
 refine does_zy (X:=⟨Tryz.prog,tt,Tryz.f51.ntmps, [], [], [], [], [], []⟩) pok _ Tryz.func51 rfl rfl (Nat.le_of_ble_eq_true rfl) ?_;obtain⟨x1,hx2,hm⟩:=bd_some hm;refine CallY.det (d_bylaw_window_lit w _ hx2) ?_;revert hm;refine VIf.b (fun h3 hm=> ?_) (fun h3 hm=> ?_);cases hm;exact RetY.le (leD.refl _);obtain⟨x4,hx5,hm⟩:=bd_some hm;refine CallY.det (d_bylaw_window_on c1_0 _ hx5) ?_;revert hm;refine VIf.b (fun h6 hm=> ?_) (fun h6 hm=> ?_);cases hm;exact RetY.le (leD.refl _);cases hm;exact RetY.le (leD.refl _)
def m_bylaw_On (b_:TBylaw) (lamp:Int) (n:TNight) (night:Int):Option (TRange×Int):=
 Option.bind (m_bylaw_look b_ lamp n night) fun⟨x1,x2⟩=>
 if(x2 !=0)=true then
  some ((⟨0,0⟩:TRange),x2)
 else
  Option.bind (m_bylaw_window_minutes__bylaw_window_on x1 x1) fun⟨x5,x6⟩=>
  some (x5,x6)
theorem d_bylaw_On (b_:TBylaw) (lamp:Int) (n:TNight) (night:Int) (r:(TRange×Int)) (hm:m_bylaw_On b_ lamp n night=some r):Does Tryz.prog 24 [.agg (TBylaw.c b_),DI lamp, .agg (TNight.c n),DI night] (fun x=>x= .tup [.agg (TRange.c r.1),DI r.2]):=by
 refine does_zy (X:=⟨Tryz.prog,tt,Tryz.f24.ntmps, [], [], [], [], [], []⟩) pok _ Tryz.func24 rfl rfl (Nat.le_of_ble_eq_true rfl) ?_;obtain⟨⟨x1,x2⟩,hx3,hm⟩:=bd_some hm;refine CallY.det (d_bylaw_look b_ lamp n night _ hx3) ?_;revert hm;refine VIf.b (fun h4 hm=> ?_) (fun h4 hm=> ?_);cases hm;exact RetY.le (leD.refl _);obtain⟨⟨x5,x6⟩,hx7,hm⟩:=bd_some hm;refine CallY.det (d_bylaw_window_minutes__bylaw_window_on x1 x1 _ hx7) ?_;cases hm;exact RetY.le (leD.refl _)
def m_bylaw_window_off (w:Twindow):Option TRange:=
 Option.bind (m_bylaw_clip (W (w.n.Rise.Hi-w.v.Off.Hi)) (W (w.n.Rise.Lo-w.v.Off.Lo))) fun x1=>
 some x1
theorem d_bylaw_window_off (w:Twindow) (r:TRange) (hm:m_bylaw_window_off w=some r):Does Tryz.prog 53 [.agg (Twindow.c w)] (fun x=>x= .agg (TRange.c r)):=by
 refine does_zy (X:=⟨Tryz.prog,tt,Tryz.f53.ntmps, [], [], [], [], [], []⟩) pok _ Tryz.func53 rfl rfl (Nat.le_of_ble_eq_true rfl) ?_;obtain⟨x1,hx2,hm⟩:=bd_some hm;refine CallY.det (d_bylaw_clip (W (w.n.Rise.Hi-w.v.Off.Hi)) (W (w.n.Rise.Lo-w.v.Off.Lo)) _ hx2) ?_;cases hm;exact RetY.le (leD.refl _)
def m_bylaw_window_minutes__bylaw_window_off (w:Twindow) (c1_0:Twindow):Option (TRange×Int):=
 Option.bind (m_bylaw_window_lit w) fun x1=>
 if(x1==0)=true then
  some ((⟨0,0⟩:TRange),18)
 else
  Option.bind (m_bylaw_window_off c1_0) fun x4=>
  if(decide (x4.Lo>x4.Hi))=true then
   some ((⟨0,0⟩:TRange),16)
  else
   some (x4,0)
theorem d_bylaw_window_minutes__bylaw_window_off (w:Twindow) (c1_0:Twindow) (r:(TRange×Int)) (hm:m_bylaw_window_minutes__bylaw_window_off w c1_0=some r):Does Tryz.prog 51 [.agg (Twindow.c w), .fn 53 [.agg [DI c1_0.v.Source,DI c1_0.v.Class,DI c1_0.v.From,DI c1_0.v.On.Lo,DI c1_0.v.On.Hi,DI c1_0.v.Off.Lo,DI c1_0.v.Off.Hi,DI c1_0.v.Moon,DI c1_0.v.Fog,DI c1_0.v.Known,DI c1_0.v.Until,DI c1_0.n.No,DI c1_0.n.Set.Lo,DI c1_0.n.Set.Hi,DI c1_0.n.Rise.Lo,DI c1_0.n.Rise.Hi,DI c1_0.n.Light.Lo,DI c1_0.n.Light.Hi,DI c1_0.n.Fog]] []] (fun x=>x= .tup [.agg (TRange.c r.1),DI r.2]):=by
 refine does_zy (X:=⟨Tryz.prog,tt,Tryz.f51.ntmps, [], [], [], [], [], []⟩) pok _ Tryz.func51 rfl rfl (Nat.le_of_ble_eq_true rfl) ?_;obtain⟨x1,hx2,hm⟩:=bd_some hm;refine CallY.det (d_bylaw_window_lit w _ hx2) ?_;revert hm;refine VIf.b (fun h3 hm=> ?_) (fun h3 hm=> ?_);cases hm;exact RetY.le (leD.refl _);obtain⟨x4,hx5,hm⟩:=bd_some hm;refine CallY.det (d_bylaw_window_off c1_0 _ hx5) ?_;revert hm;refine VIf.b (fun h6 hm=> ?_) (fun h6 hm=> ?_);cases hm;exact RetY.le (leD.refl _);cases hm;exact RetY.le (leD.refl _)
def m_bylaw_Off (b_:TBylaw) (lamp:Int) (n:TNight) (night:Int):Option (TRange×Int):=
 Option.bind (m_bylaw_look b_ lamp n night) fun⟨x1,x2⟩=>
 if(x2 !=0)=true then
  some ((⟨0,0⟩:TRange),x2)
 else
  Option.bind (m_bylaw_window_minutes__bylaw_window_off x1 x1) fun⟨x5,x6⟩=>
  some (x5,x6)
theorem d_bylaw_Off (b_:TBylaw) (lamp:Int) (n:TNight) (night:Int) (r:(TRange×Int)) (hm:m_bylaw_Off b_ lamp n night=some r):Does Tryz.prog 25 [.agg (TBylaw.c b_),DI lamp, .agg (TNight.c n),DI night] (fun x=>x= .tup [.agg (TRange.c r.1),DI r.2]):=by
 refine does_zy (X:=⟨Tryz.prog,tt,Tryz.f25.ntmps, [], [], [], [], [], []⟩) pok _ Tryz.func25 rfl rfl (Nat.le_of_ble_eq_true rfl) ?_;obtain⟨⟨x1,x2⟩,hx3,hm⟩:=bd_some hm;refine CallY.det (d_bylaw_look b_ lamp n night _ hx3) ?_;revert hm;refine VIf.b (fun h4 hm=> ?_) (fun h4 hm=> ?_);cases hm;exact RetY.le (leD.refl _);obtain⟨⟨x5,x6⟩,hx7,hm⟩:=bd_some hm;refine CallY.det (d_bylaw_window_minutes__bylaw_window_off x1 x1 _ hx7) ?_;cases hm;exact RetY.le (leD.refl _)
def m_bylaw_window_duty (w:Twindow):Option (TDuty×Int):=
 Option.bind (m_bylaw_window_lit w) fun x1=>
 if(x1==0)=true then
  some ((⟨0,(⟨0,0⟩:TRange),(⟨0,0⟩:TRange)⟩:TDuty),0)
 else
  Option.bind (m_bylaw_window_minutes__bylaw_window_on w w) fun⟨x4,x5⟩=>
  if(x5 !=0)=true then
   some ((⟨0,(⟨0,0⟩:TRange),(⟨0,0⟩:TRange)⟩:TDuty),x5)
  else
   Option.bind (m_bylaw_window_minutes__bylaw_window_off w w) fun⟨x8,x9⟩=>
   if(x9 !=0)=true then
    some ((⟨0,(⟨0,0⟩:TRange),(⟨0,0⟩:TRange)⟩:TDuty),x9)
   else
    some ((⟨x1,x4,x8⟩:TDuty),0)
theorem d_bylaw_window_duty (w:Twindow) (r:(TDuty×Int)) (hm:m_bylaw_window_duty w=some r):Does Tryz.prog 82 [.agg (Twindow.c w)] (fun x=>x= .tup [.agg (TDuty.c r.1),DI r.2]):=by
 refine does_zy (X:=⟨Tryz.prog,tt,Tryz.f82.ntmps, [], [], [], [], [], []⟩) pok _ Tryz.func82 rfl rfl (Nat.le_of_ble_eq_true rfl) ?_;obtain⟨x1,hx2,hm⟩:=bd_some hm;refine CallY.det (d_bylaw_window_lit w _ hx2) ?_;revert hm;refine VIf.b (fun h3 hm=> ?_) (fun h3 hm=> ?_);cases hm;exact RetY.le (leD.refl _);obtain⟨⟨x4,x5⟩,hx6,hm⟩:=bd_some hm;refine CallY.det (d_bylaw_window_minutes__bylaw_window_on w w _ hx6) ?_;revert hm;refine VIf.b (fun h7 hm=> ?_) (fun h7 hm=> ?_);cases hm;exact RetY.le (leD.refl _);obtain⟨⟨x8,x9⟩,hx10,hm⟩:=bd_some hm;refine CallY.det (d_bylaw_window_minutes__bylaw_window_off w w _ hx10) ?_;revert hm;refine VIf.b (fun h11 hm=> ?_) (fun h11 hm=> ?_);cases hm;exact RetY.le (leD.refl _);cases hm;exact RetY.le (leD.refl _)
def m_bylaw_Duty (b_:TBylaw) (lamp:Int) (n:TNight) (night:Int):Option (TDuty×Int):=
 Option.bind (m_bylaw_look b_ lamp n night) fun⟨x1,x2⟩=>
 if(x2 !=0)=true then
  some ((⟨0,(⟨0,0⟩:TRange),(⟨0,0⟩:TRange)⟩:TDuty),x2)
 else
  Option.bind (m_bylaw_window_duty x1) fun⟨x5,x6⟩=>
  some (x5,x6)
theorem d_bylaw_Duty (b_:TBylaw) (lamp:Int) (n:TNight) (night:Int) (r:(TDuty×Int)) (hm:m_bylaw_Duty b_ lamp n night=some r):Does Tryz.prog 54 [.agg (TBylaw.c b_),DI lamp, .agg (TNight.c n),DI night] (fun x=>x= .tup [.agg (TDuty.c r.1),DI r.2]):=by
 refine does_zy (X:=⟨Tryz.prog,tt,Tryz.f54.ntmps, [], [], [], [], [], []⟩) pok _ Tryz.func54 rfl rfl (Nat.le_of_ble_eq_true rfl) ?_;obtain⟨⟨x1,x2⟩,hx3,hm⟩:=bd_some hm;refine CallY.det (d_bylaw_look b_ lamp n night _ hx3) ?_;revert hm;refine VIf.b (fun h4 hm=> ?_) (fun h4 hm=> ?_);cases hm;exact RetY.le (leD.refl _);obtain⟨⟨x5,x6⟩,hx7,hm⟩:=bd_some hm;refine CallY.det (d_bylaw_window_duty x1 _ hx7) ?_;cases hm;exact RetY.le (leD.refl _)
def m_bylaw_Burns (b_:TBylaw) (lamp:Int) (n:TNight) (night:Int):Option (TRange×Int):=
 Option.bind (m_bylaw_Duty b_ lamp n night) fun⟨x1,x2⟩=>
 if(x2 !=0)=true then
  some ((⟨0,0⟩:TRange),x2)
 else
  if(x1.Lit==0)=true then
   some ((⟨0,0⟩:TRange),x2)
  else
   if(x1.Lit==2)=true then
    some ((⟨0,(if 0>(W (x1.Off.Hi-x1.On.Lo))then 0 else(W (x1.Off.Hi-x1.On.Lo)))⟩:TRange),0)
   else
    some ((⟨(if 0>(W (x1.Off.Lo-x1.On.Hi))then 0 else(W (x1.Off.Lo-x1.On.Hi))),(if 0>(W (x1.Off.Hi-x1.On.Lo))then 0 else(W (x1.Off.Hi-x1.On.Lo)))⟩:TRange),0)
theorem d_bylaw_Burns (b_:TBylaw) (lamp:Int) (n:TNight) (night:Int) (r:(TRange×Int)) (hm:m_bylaw_Burns b_ lamp n night=some r):Does Tryz.prog 26 [.agg (TBylaw.c b_),DI lamp, .agg (TNight.c n),DI night] (fun x=>x= .tup [.agg (TRange.c r.1),DI r.2]):=by
 refine does_zy (X:=⟨Tryz.prog,tt,Tryz.f26.ntmps, [], [], [], [], [], []⟩) pok _ Tryz.func26 rfl rfl (Nat.le_of_ble_eq_true rfl) ?_;obtain⟨⟨x1,x2⟩,hx3,hm⟩:=bd_some hm;refine CallY.det (d_bylaw_Duty b_ lamp n night _ hx3) ?_;revert hm;refine VIf.b (fun h4 hm=> ?_) (fun h4 hm=> ?_);cases hm;exact RetY.le (leD.refl _);revert hm;refine VIf.b (fun h5 hm=> ?_) (fun h5 hm=> ?_);cases hm;exact RetY.le (leD.refl _);revert hm;refine VIf.b (fun h6 hm=> ?_) (fun h6 hm=> ?_);cases hm;exact RetY.le (leD.refl _);cases hm;exact RetY.le (leD.refl _)
def m_bylaw_areTimes (t:TTimes):Option Bool:=
 if((t.On==(-1))&&(t.Off==(-1)))=true then
  some true
 else
  if(decide (0≤t.On))=true then
   if(decide (t.On≤t.Off))=true then
    some (decide (t.Off≤1439))
   else
    some false
  else
   some false
theorem d_bylaw_areTimes (t:TTimes) (r:Bool) (hm:m_bylaw_areTimes t=some r):Does Tryz.prog 56 [.agg (TTimes.c t)] (fun x=>x=DB r):=by
 refine does_zy (X:=⟨Tryz.prog,tt,Tryz.f56.ntmps, [], [], [], [], [], []⟩) pok _ Tryz.func56 rfl rfl (Nat.le_of_ble_eq_true rfl) ?_;revert hm;refine VIf.b (fun h1 hm=> ?_) (fun h1 hm=> ?_);cases hm;exact RetY.le (leD.refl _);revert hm;refine VIf.b (fun h2 hm=> ?_) (fun h2 hm=> ?_);revert hm;refine VIf.b (fun h3 hm=> ?_) (fun h3 hm=> ?_);cases hm;exact RetY.le (leD.refl _);cases hm;exact RetY.le (leD.refl _);cases hm;exact RetY.le (leD.refl _)
def m_bylaw_window_ends (w:Twindow):Option Twindow:=
 some w
theorem d_bylaw_window_ends (w:Twindow) (r:Twindow) (hm:m_bylaw_window_ends w=some r):Does Tryz.prog 58 [.agg (Twindow.c w)] (fun x=>x= .fn 83 [] [.ptr [DI r.v.Source,DI r.v.Class,DI r.v.From,DI r.v.On.Lo,DI r.v.On.Hi,DI r.v.Off.Lo,DI r.v.Off.Hi,DI r.v.Moon,DI r.v.Fog,DI r.v.Known,DI r.v.Until,DI r.n.No,DI r.n.Set.Lo,DI r.n.Set.Hi,DI r.n.Rise.Lo,DI r.n.Rise.Hi,DI r.n.Light.Lo,DI r.n.Light.Hi,DI r.n.Fog] 0]):=by
 refine does_zy (X:=⟨Tryz.prog,tt,Tryz.f58.ntmps, [], [], [], [], [], []⟩) pok _ Tryz.func58 rfl rfl (Nat.le_of_ble_eq_true rfl) ?_;cases hm;exact RetY.le (leD.refl _)
def en_bylaw_window_ends_1 (x:TTruth):List D:= [.agg (TTruth.c x)]
def it_bylaw_window_ends_1_L118 (c_0:Twindow) (e1381:Bool) (e1501:Int) (e1539:Int):Int→Option (List TTruth×Sum Int Int):=fun v1545=>
 if(decide (v1545<(([c_0.n.Light.Lo,c_0.n.Light.Hi]:List Int).length:Int)))=true then
  Option.bind (idx ([c_0.n.Light.Lo,c_0.n.Light.Hi]:List Int) v1545) fun e1551=>
  emit (⟨e1501,e1539,e1551,e1381⟩:TTruth)<|
  some ([], .inl (W (v1545+1)))
 else
  some ([], .inr v1545)
def it_bylaw_window_ends_1_L117 (c_0:Twindow) (e1381:Bool) (e1501:Int):Int→Option (List TTruth×Sum Int Int):=fun v1520=>
 if(decide (v1520<(([c_0.n.Rise.Lo,c_0.n.Rise.Hi]:List Int).length:Int)))=true then
  Option.bind (idx ([c_0.n.Rise.Lo,c_0.n.Rise.Hi]:List Int) v1520) fun e1539=>
  bindI (loopIF (it_bylaw_window_ends_1_L118 c_0 e1381 e1501 e1539) 0) fun v1554=>
  some ([], .inl (W (v1520+1)))
 else
  some ([], .inr v1520)
def it_bylaw_window_ends_1_L114 (c_0:Twindow) (e1381:Bool):Int→Option (List TTruth×Sum Int Int):=fun v1443=>
 if(decide (v1443<(([c_0.n.Set.Lo,c_0.n.Set.Hi]:List Int).length:Int)))=true then
  Option.bind (idx ([c_0.n.Set.Lo,c_0.n.Set.Hi]:List Int) v1443) fun e1501=>
  bindI (loopIF (it_bylaw_window_ends_1_L117 c_0 e1381 e1501) 0) fun v1568=>
  some ([], .inl (W (v1443+1)))
 else
  some ([], .inr v1443)
def it_bylaw_window_ends_1_L105 (c_0:Twindow):Int→Option (List TTruth×Sum Int Int):=fun v690=>
 if(decide (v690<(([false,true]:List Bool).length:Int)))=true then
  Option.bind (idx ([false,true]:List Bool) v690) fun e1381=>
  if e1381=true then
   if(c_0.n.Fog==0)=true then
    some ([], .inl (W (v690+1)))
   else
    if(!e1381)=true then
     if(c_0.n.Fog==1)=true then
      some ([], .inl (W (v690+1)))
     else
      bindI (loopIF (it_bylaw_window_ends_1_L114 c_0 e1381) 0) fun v1608=>
      some ([], .inl (W (v690+1)))
    else
     bindI (loopIF (it_bylaw_window_ends_1_L114 c_0 e1381) 0) fun v1947=>
     some ([], .inl (W (v690+1)))
  else
   if(!e1381)=true then
    if(c_0.n.Fog==1)=true then
     some ([], .inl (W (v690+1)))
    else
     bindI (loopIF (it_bylaw_window_ends_1_L114 c_0 e1381) 0) fun v2288=>
     some ([], .inl (W (v690+1)))
   else
    bindI (loopIF (it_bylaw_window_ends_1_L114 c_0 e1381) 0) fun v2627=>
    some ([], .inl (W (v690+1)))
 else
  some ([], .inr v690)
def it_bylaw_window_ends_1 (c_0:Twindow):Option (List TTruth×Unit):=
 bindI (loopIF (it_bylaw_window_ends_1_L105 c_0) 0) fun v2745=>
 some ([],())
theorem i_bylaw_window_ends_1 (c_0:Twindow) (xs:List TTruth) (hm:it_bylaw_window_ends_1 c_0=some (xs,())):DoesIt Tryz.prog 83 [.ptr [DI c_0.v.Source,DI c_0.v.Class,DI c_0.v.From,DI c_0.v.On.Lo,DI c_0.v.On.Hi,DI c_0.v.Off.Lo,DI c_0.v.Off.Hi,DI c_0.v.Moon,DI c_0.v.Fog,DI c_0.v.Known,DI c_0.v.Until,DI c_0.n.No,DI c_0.n.Set.Lo,DI c_0.n.Set.Hi,DI c_0.n.Rise.Lo,DI c_0.n.Rise.Hi,DI c_0.n.Light.Lo,DI c_0.n.Light.Hi,DI c_0.n.Fog] 0] (xs.map en_bylaw_window_ends_1):=by
 refine does_zit (X:=⟨Tryz.prog,tt,Tryz.f83.ntmps, [], [], [], [], [], []⟩) pok _ _ [] Tryz.func83 rfl rfl (Nat.le_of_ble_eq_true rfl) rfl ?_;intro l;obtain⟨r,hr⟩:∃r:List TTruth×Unit,r=(xs,()):=⟨_,rfl⟩;rw [←hr]at hm;have hp:Hp3 en_bylaw_window_ends_1 [] r.1 [] (xs.map en_bylaw_window_ends_1):=⟨by rw [hr];simp⟩;clear hr;refine⟨([false,true]:List Bool).flatMap cB,([false,true]:List Bool).length,⟨rfl,rfl⟩, ?_⟩;obtain⟨ev2746,rr2750,he,hk2747,hb1,hb2⟩:=bindI_some hm;replace hp:=hp.in1 hb1;clear hb1 hb2;refine LoopI.of (fun(lpx:Nat×Int)=>match lpx with|(fu2748,v690)=>(⟨[(0, .v (.func (.yield l) #[] #[])),(1, .ptr [DI c_0.v.Source,DI c_0.v.Class,DI c_0.v.From,DI c_0.v.On.Lo,DI c_0.v.On.Hi,DI c_0.v.Off.Lo,DI c_0.v.Off.Hi,DI c_0.v.Moon,DI c_0.v.Fog,DI c_0.v.Known,DI c_0.v.Until,DI c_0.n.No,DI c_0.n.Set.Lo,DI c_0.n.Set.Hi,DI c_0.n.Rise.Lo,DI c_0.n.Rise.Hi,DI c_0.n.Light.Lo,DI c_0.n.Light.Hi,DI c_0.n.Fog] 0),(11,lD 1 ([false,true]:List Bool) cB),(12,DI (([false,true]:List Bool).length:Int)),(13,DI v690)], [],1⟩:Sy)) (fun lpx q=>∃e,loopIO (it_bylaw_window_ends_1_L105 c_0) lpx.1 lpx.2=some e∧Hp3 en_bylaw_window_ends_1 q e.1 _ _∧e.2=ev2746.2) (fun lpx=>lpx.1) (FUEL,0) ⟨_,he,hp,rfl⟩ (SubY.fz [0] rfl 1 rfl ⟨tR rfl,tR rfl,tR rfl,tR rfl,tR rfl,trivial⟩ trivial) ?_
 clear hp he;rintro⟨fu2748,v690⟩ q ⟨el2752,hi2749,hp,hx2753⟩;obtain⟨fu2748,b,tl,rfl,hm,hb1,hi2749⟩:=loopI_step hi2749;replace hp:=hp.in1 hb1;clear hb1;have hq:b.2=b.2:=rfl;revert hm;refine VIf.b (fun h2755 hm=> ?_) (fun h2755 hm=> ?_);obtain⟨e2756,hx2757,hm⟩:=bd_some hm;refine⟨_,el_idx (fun _=>rfl) hx2757, ?_⟩;revert hm;refine VIf.b (fun h2758 hm=> ?_) (fun h2758 hm=> ?_);revert hm;refine VIf.b (fun h2759 hm=> ?_) (fun h2759 hm=> ?_);cases hm;rw [hq]at hi2749;obtain⟨e2,hm,rfl,ht⟩:=hi2749;exact⟨(fu2748,(W (v690+1))),_,SubY.of 1 rfl ⟨tR rfl,tR rfl,tR rfl,tR rfl,tR rfl,trivial⟩ trivial,rfl,⟨_,hm,hp.out rfl,ht.symm.trans hx2753⟩,Nat.lt_succ_self _⟩;revert hm;refine VIf.b (fun h2760 hm=> ?_) (fun h2760 hm=> ?_);revert hm;refine VIf.b (fun h2761 hm=> ?_) (fun h2761 hm=> ?_);cases hm;rw [hq]at hi2749;obtain⟨e2,hm,rfl,ht⟩:=hi2749;exact⟨(fu2748,(W (v690+1))),_,SubY.of 1 rfl ⟨tR rfl,tR rfl,tR rfl,tR rfl,tR rfl,trivial⟩ trivial,rfl,⟨_,hm,hp.out rfl,ht.symm.trans hx2753⟩,Nat.lt_succ_self _⟩;refine⟨([c_0.n.Set.Lo,c_0.n.Set.Hi]:List Int).flatMap cI,([c_0.n.Set.Lo,c_0.n.Set.Hi]:List Int).length,⟨rfl,rfl⟩, ?_⟩;obtain⟨ev2984,rr2988,he,hk2985,hb1,hb2⟩:=bindI_some hm;replace hp:=hp.in1 hb1;have hq2992:=hq.trans hb2;clear hq;clear hb1 hb2;refine LoopI.of (fun(lpx:Nat×Int)=>match lpx with|(fu2986,v2818)=>(⟨[(0, .v (.func (.yield l) #[] #[])),(1, .ptr [DI c_0.v.Source,DI c_0.v.Class,DI c_0.v.From,DI c_0.v.On.Lo,DI c_0.v.On.Hi,DI c_0.v.Off.Lo,DI c_0.v.Off.Hi,DI c_0.v.Moon,DI c_0.v.Fog,DI c_0.v.Known,DI c_0.v.Until,DI c_0.n.No,DI c_0.n.Set.Lo,DI c_0.n.Set.Hi,DI c_0.n.Rise.Lo,DI c_0.n.Rise.Hi,DI c_0.n.Light.Lo,DI c_0.n.Light.Hi,DI c_0.n.Fog] 0),(4,DB e2756),(11,lD 1 ([false,true]:List Bool) cB),(12,DI (([false,true]:List Bool).length:Int)),(13,DI v690),(14,DB (decide (v690<(([false,true]:List Bool).length:Int)))),(33,DB (c_0.n.Fog==1)),(42,lD 1 ([c_0.n.Set.Lo,c_0.n.Set.Hi]:List Int) cI),(43,DI (([c_0.n.Set.Lo,c_0.n.Set.Hi]:List Int).length:Int)),(44,DI v2818)], [],2⟩:Sy)) (fun lpx q=>∃e,loopIO (it_bylaw_window_ends_1_L114 c_0 e2756) lpx.1 lpx.2=some e∧Hp3 en_bylaw_window_ends_1 q e.1 _ _∧e.2=ev2984.2) (fun lpx=>lpx.1) (FUEL,0) ⟨_,he,hp,rfl⟩ (SubY.fz [1] rfl 2 rfl ⟨tR rfl,tR rfl,tR rfl,tR rfl,tR rfl,tR rfl,tR rfl,tR rfl,tR rfl,tR rfl,tR rfl,trivial⟩ trivial) ?_
 clear hp he;rintro⟨fu2986,v2818⟩ q ⟨el2990,hi2987,hp,hx2991⟩;obtain⟨fu2986,b,tl,rfl,hm,hb1,hi2987⟩:=loopI_step hi2987;replace hp:=hp.in1 hb1;clear hb1;have hq:b.2=b.2:=rfl;revert hm;refine VIf.b (fun h2993 hm=> ?_) (fun h2993 hm=> ?_);obtain⟨e2994,hx2995,hm⟩:=bd_some hm;refine⟨_,el_idx (fun _=>rfl) hx2995, ?_⟩;refine⟨([c_0.n.Rise.Lo,c_0.n.Rise.Hi]:List Int).flatMap cI,([c_0.n.Rise.Lo,c_0.n.Rise.Hi]:List Int).length,⟨rfl,rfl⟩, ?_⟩;obtain⟨ev3062,rr3066,he,hk3063,hb1,hb2⟩:=bindI_some hm;replace hp:=hp.in1 hb1;have hq3070:=hq.trans hb2;clear hq;clear hb1 hb2;refine LoopI.of (fun(lpx:Nat×Int)=>match lpx with|(fu3064,v3013)=>(⟨[(0, .v (.func (.yield l) #[] #[])),(1, .ptr [DI c_0.v.Source,DI c_0.v.Class,DI c_0.v.From,DI c_0.v.On.Lo,DI c_0.v.On.Hi,DI c_0.v.Off.Lo,DI c_0.v.Off.Hi,DI c_0.v.Moon,DI c_0.v.Fog,DI c_0.v.Known,DI c_0.v.Until,DI c_0.n.No,DI c_0.n.Set.Lo,DI c_0.n.Set.Hi,DI c_0.n.Rise.Lo,DI c_0.n.Rise.Hi,DI c_0.n.Light.Lo,DI c_0.n.Light.Hi,DI c_0.n.Fog] 0),(4,DB e2756),(6,DI e2994),(11,lD 1 ([false,true]:List Bool) cB),(12,DI (([false,true]:List Bool).length:Int)),(13,DI v690),(14,DB (decide (v690<(([false,true]:List Bool).length:Int)))),(33,DB (c_0.n.Fog==1)),(42,lD 1 ([c_0.n.Set.Lo,c_0.n.Set.Hi]:List Int) cI),(43,DI (([c_0.n.Set.Lo,c_0.n.Set.Hi]:List Int).length:Int)),(44,DI v2818),(45,DB (decide (v2818<(([c_0.n.Set.Lo,c_0.n.Set.Hi]:List Int).length:Int)))),(56,lD 1 ([c_0.n.Rise.Lo,c_0.n.Rise.Hi]:List Int) cI),(57,DI (([c_0.n.Rise.Lo,c_0.n.Rise.Hi]:List Int).length:Int)),(58,DI v3013)], [],3⟩:Sy)) (fun lpx q=>∃e,loopIO (it_bylaw_window_ends_1_L117 c_0 e2756 e2994) lpx.1 lpx.2=some e∧Hp3 en_bylaw_window_ends_1 q e.1 _ _∧e.2=ev3062.2) (fun lpx=>lpx.1) (FUEL,0) ⟨_,he,hp,rfl⟩ (SubY.fz [2] rfl 3 rfl ⟨tR rfl,tR rfl,tR rfl,tR rfl,tR rfl,tR rfl,tR rfl,tR rfl,tR rfl,tR rfl,tR rfl,tR rfl,tR rfl,tR rfl,tR rfl,tR rfl,trivial⟩ trivial) ?_
 clear hp he;rintro⟨fu3064,v3013⟩ q ⟨el3068,hi3065,hp,hx3069⟩;obtain⟨fu3064,b,tl,rfl,hm,hb1,hi3065⟩:=loopI_step hi3065;replace hp:=hp.in1 hb1;clear hb1;have hq:b.2=b.2:=rfl;revert hm;refine VIf.b (fun h3071 hm=> ?_) (fun h3071 hm=> ?_);obtain⟨e3072,hx3073,hm⟩:=bd_some hm;refine⟨_,el_idx (fun _=>rfl) hx3073, ?_⟩;refine⟨([c_0.n.Light.Lo,c_0.n.Light.Hi]:List Int).flatMap cI,([c_0.n.Light.Lo,c_0.n.Light.Hi]:List Int).length,⟨rfl,rfl⟩, ?_⟩;obtain⟨ev3088,rr3092,he,hk3089,hb1,hb2⟩:=bindI_some hm;replace hp:=hp.in1 hb1;have hq3096:=hq.trans hb2;clear hq;clear hb1 hb2;refine LoopI.of (fun(lpx:Nat×Int)=>match lpx with|(fu3090,v3078)=>(⟨[(0, .v (.func (.yield l) #[] #[])),(1, .ptr [DI c_0.v.Source,DI c_0.v.Class,DI c_0.v.From,DI c_0.v.On.Lo,DI c_0.v.On.Hi,DI c_0.v.Off.Lo,DI c_0.v.Off.Hi,DI c_0.v.Moon,DI c_0.v.Fog,DI c_0.v.Known,DI c_0.v.Until,DI c_0.n.No,DI c_0.n.Set.Lo,DI c_0.n.Set.Hi,DI c_0.n.Rise.Lo,DI c_0.n.Rise.Hi,DI c_0.n.Light.Lo,DI c_0.n.Light.Hi,DI c_0.n.Fog] 0),(4,DB e2756),(6,DI e2994),(8,DI e3072),(11,lD 1 ([false,true]:List Bool) cB),(12,DI (([false,true]:List Bool).length:Int)),(13,DI v690),(14,DB (decide (v690<(([false,true]:List Bool).length:Int)))),(33,DB (c_0.n.Fog==1)),(42,lD 1 ([c_0.n.Set.Lo,c_0.n.Set.Hi]:List Int) cI),(43,DI (([c_0.n.Set.Lo,c_0.n.Set.Hi]:List Int).length:Int)),(44,DI v2818),(45,DB (decide (v2818<(([c_0.n.Set.Lo,c_0.n.Set.Hi]:List Int).length:Int)))),(56,lD 1 ([c_0.n.Rise.Lo,c_0.n.Rise.Hi]:List Int) cI),(57,DI (([c_0.n.Rise.Lo,c_0.n.Rise.Hi]:List Int).length:Int)),(58,DI v3013),(59,DB (decide (v3013<(([c_0.n.Rise.Lo,c_0.n.Rise.Hi]:List Int).length:Int)))),(70,lD 1 ([c_0.n.Light.Lo,c_0.n.Light.Hi]:List Int) cI),(71,DI (([c_0.n.Light.Lo,c_0.n.Light.Hi]:List Int).length:Int)),(72,DI v3078)], [],4⟩:Sy)) (fun lpx q=>∃e,loopIO (it_bylaw_window_ends_1_L118 c_0 e2756 e2994 e3072) lpx.1 lpx.2=some e∧Hp3 en_bylaw_window_ends_1 q e.1 _ _∧e.2=ev3088.2) (fun lpx=>lpx.1) (FUEL,0) ⟨_,he,hp,rfl⟩ (SubY.fz [3] rfl 4 rfl ⟨tR rfl,tR rfl,tR rfl,tR rfl,tR rfl,tR rfl,tR rfl,tR rfl,tR rfl,tR rfl,tR rfl,tR rfl,tR rfl,tR rfl,tR rfl,tR rfl,tR rfl,tR rfl,tR rfl,tR rfl,tR rfl,trivial⟩ trivial) ?_
 clear hp he;rintro⟨fu3090,v3078⟩ q ⟨el3094,hi3091,hp,hx3095⟩;obtain⟨fu3090,b,tl,rfl,hm,hb1,hi3091⟩:=loopI_step hi3091;replace hp:=hp.in1 hb1;clear hb1;have hq:b.2=b.2:=rfl;revert hm;refine VIf.b (fun h3097 hm=> ?_) (fun h3097 hm=> ?_);obtain⟨e3098,hx3099,hm⟩:=bd_some hm;refine⟨_,el_idx (fun _=>rfl) hx3099, ?_⟩;obtain⟨rb3100,hm,hb1,hb2⟩:=emit_some hm;refine YieldY.of (x':=en_bylaw_window_ends_1 (⟨e2994,e3072,e3098,e2756⟩:TTruth)) rfl rfl (RetY.le (leD.refl _)) (hp.pre hb1) ?_ ?_;replace hp:=hp.emit hb1;replace hq:=hq.trans hb2;cases hm;rw [hq]at hi3091;obtain⟨e2,hm,rfl,ht⟩:=hi3091;exact⟨(fu3090,(W (v3078+1))),_,SubY.of 4 rfl ⟨tR rfl,tR rfl,tR rfl,tR rfl,tR rfl,tR rfl,tR rfl,tR rfl,tR rfl,tR rfl,tR rfl,tR rfl,tR rfl,tR rfl,tR rfl,tR rfl,tR rfl,tR rfl,tR rfl,tR rfl,tR rfl,trivial⟩ trivial,rfl,⟨_,hm,hp.out rfl,ht.symm.trans hx3095⟩,Nat.lt_succ_self _⟩;exact .inl rfl;cases hm;rw [hq]at hi3091;obtain⟨rfl,ht⟩:=hi3091;replace hp:=(hp.out (l':= []) rfl).out rfl;have hm:=hk3089
 try rw [←hx3095,ht]at hm
 have hq:=hq3096;cases hm;rw [hq]at hi3065;obtain⟨e2,hm,rfl,ht⟩:=hi3065;exact⟨(fu3064,(W (v3013+1))),_,SubY.of 3 rfl ⟨tR rfl,tR rfl,tR rfl,tR rfl,tR rfl,tR rfl,tR rfl,tR rfl,tR rfl,tR rfl,tR rfl,tR rfl,tR rfl,tR rfl,tR rfl,tR rfl,trivial⟩ trivial,rfl,⟨_,hm,hp.out rfl,ht.symm.trans hx3069⟩,Nat.lt_succ_self _⟩;cases hm;rw [hq]at hi3065;obtain⟨rfl,ht⟩:=hi3065;replace hp:=(hp.out (l':= []) rfl).out rfl;have hm:=hk3063
 try rw [←hx3069,ht]at hm
 have hq:=hq3070;cases hm;rw [hq]at hi2987;obtain⟨e2,hm,rfl,ht⟩:=hi2987;exact⟨(fu2986,(W (v2818+1))),_,SubY.of 2 rfl ⟨tR rfl,tR rfl,tR rfl,tR rfl,tR rfl,tR rfl,tR rfl,tR rfl,tR rfl,tR rfl,tR rfl,trivial⟩ trivial,rfl,⟨_,hm,hp.out rfl,ht.symm.trans hx2991⟩,Nat.lt_succ_self _⟩;cases hm;rw [hq]at hi2987;obtain⟨rfl,ht⟩:=hi2987;replace hp:=(hp.out (l':= []) rfl).out rfl;have hm:=hk2985
 try rw [←hx2991,ht]at hm
 have hq:=hq2992;cases hm;rw [hq]at hi2749;obtain⟨e2,hm,rfl,ht⟩:=hi2749;exact⟨(fu2748,(W (v690+1))),_,SubY.of 1 rfl ⟨tR rfl,tR rfl,tR rfl,tR rfl,tR rfl,trivial⟩ trivial,rfl,⟨_,hm,hp.out rfl,ht.symm.trans hx2753⟩,Nat.lt_succ_self _⟩;refine⟨([c_0.n.Set.Lo,c_0.n.Set.Hi]:List Int).flatMap cI,([c_0.n.Set.Lo,c_0.n.Set.Hi]:List Int).length,⟨rfl,rfl⟩, ?_⟩;obtain⟨ev3323,rr3327,he,hk3324,hb1,hb2⟩:=bindI_some hm;replace hp:=hp.in1 hb1;have hq3331:=hq.trans hb2;clear hq;clear hb1 hb2;refine LoopI.of (fun(lpx:Nat×Int)=>match lpx with|(fu3325,v3157)=>(⟨[(0, .v (.func (.yield l) #[] #[])),(1, .ptr [DI c_0.v.Source,DI c_0.v.Class,DI c_0.v.From,DI c_0.v.On.Lo,DI c_0.v.On.Hi,DI c_0.v.Off.Lo,DI c_0.v.Off.Hi,DI c_0.v.Moon,DI c_0.v.Fog,DI c_0.v.Known,DI c_0.v.Until,DI c_0.n.No,DI c_0.n.Set.Lo,DI c_0.n.Set.Hi,DI c_0.n.Rise.Lo,DI c_0.n.Rise.Hi,DI c_0.n.Light.Lo,DI c_0.n.Light.Hi,DI c_0.n.Fog] 0),(4,DB e2756),(11,lD 1 ([false,true]:List Bool) cB),(12,DI (([false,true]:List Bool).length:Int)),(13,DI v690),(14,DB (decide (v690<(([false,true]:List Bool).length:Int)))),(33,DB false),(42,lD 1 ([c_0.n.Set.Lo,c_0.n.Set.Hi]:List Int) cI),(43,DI (([c_0.n.Set.Lo,c_0.n.Set.Hi]:List Int).length:Int)),(44,DI v3157)], [],2⟩:Sy)) (fun lpx q=>∃e,loopIO (it_bylaw_window_ends_1_L114 c_0 e2756) lpx.1 lpx.2=some e∧Hp3 en_bylaw_window_ends_1 q e.1 _ _∧e.2=ev3323.2) (fun lpx=>lpx.1) (FUEL,0) ⟨_,he,hp,rfl⟩ (SubY.fz [1] rfl 2 rfl ⟨tR rfl,tR rfl,tR rfl,tR rfl,tR rfl,tR rfl,tR rfl,tR rfl,tR rfl,tR rfl,tR rfl,trivial⟩ trivial) ?_
 clear hp he;rintro⟨fu3325,v3157⟩ q ⟨el3329,hi3326,hp,hx3330⟩;obtain⟨fu3325,b,tl,rfl,hm,hb1,hi3326⟩:=loopI_step hi3326;replace hp:=hp.in1 hb1;clear hb1;have hq:b.2=b.2:=rfl;revert hm;refine VIf.b (fun h3332 hm=> ?_) (fun h3332 hm=> ?_);obtain⟨e3333,hx3334,hm⟩:=bd_some hm;refine⟨_,el_idx (fun _=>rfl) hx3334, ?_⟩;refine⟨([c_0.n.Rise.Lo,c_0.n.Rise.Hi]:List Int).flatMap cI,([c_0.n.Rise.Lo,c_0.n.Rise.Hi]:List Int).length,⟨rfl,rfl⟩, ?_⟩;obtain⟨ev3401,rr3405,he,hk3402,hb1,hb2⟩:=bindI_some hm;replace hp:=hp.in1 hb1;have hq3409:=hq.trans hb2;clear hq;clear hb1 hb2;refine LoopI.of (fun(lpx:Nat×Int)=>match lpx with|(fu3403,v3352)=>(⟨[(0, .v (.func (.yield l) #[] #[])),(1, .ptr [DI c_0.v.Source,DI c_0.v.Class,DI c_0.v.From,DI c_0.v.On.Lo,DI c_0.v.On.Hi,DI c_0.v.Off.Lo,DI c_0.v.Off.Hi,DI c_0.v.Moon,DI c_0.v.Fog,DI c_0.v.Known,DI c_0.v.Until,DI c_0.n.No,DI c_0.n.Set.Lo,DI c_0.n.Set.Hi,DI c_0.n.Rise.Lo,DI c_0.n.Rise.Hi,DI c_0.n.Light.Lo,DI c_0.n.Light.Hi,DI c_0.n.Fog] 0),(4,DB e2756),(6,DI e3333),(11,lD 1 ([false,true]:List Bool) cB),(12,DI (([false,true]:List Bool).length:Int)),(13,DI v690),(14,DB (decide (v690<(([false,true]:List Bool).length:Int)))),(33,DB false),(42,lD 1 ([c_0.n.Set.Lo,c_0.n.Set.Hi]:List Int) cI),(43,DI (([c_0.n.Set.Lo,c_0.n.Set.Hi]:List Int).length:Int)),(44,DI v3157),(45,DB (decide (v3157<(([c_0.n.Set.Lo,c_0.n.Set.Hi]:List Int).length:Int)))),(56,lD 1 ([c_0.n.Rise.Lo,c_0.n.Rise.Hi]:List Int) cI),(57,DI (([c_0.n.Rise.Lo,c_0.n.Rise.Hi]:List Int).length:Int)),(58,DI v3352)], [],3⟩:Sy)) (fun lpx q=>∃e,loopIO (it_bylaw_window_ends_1_L117 c_0 e2756 e3333) lpx.1 lpx.2=some e∧Hp3 en_bylaw_window_ends_1 q e.1 _ _∧e.2=ev3401.2) (fun lpx=>lpx.1) (FUEL,0) ⟨_,he,hp,rfl⟩ (SubY.fz [2] rfl 3 rfl ⟨tR rfl,tR rfl,tR rfl,tR rfl,tR rfl,tR rfl,tR rfl,tR rfl,tR rfl,tR rfl,tR rfl,tR rfl,tR rfl,tR rfl,tR rfl,tR rfl,trivial⟩ trivial) ?_
 clear hp he;rintro⟨fu3403,v3352⟩ q ⟨el3407,hi3404,hp,hx3408⟩;obtain⟨fu3403,b,tl,rfl,hm,hb1,hi3404⟩:=loopI_step hi3404;replace hp:=hp.in1 hb1;clear hb1;have hq:b.2=b.2:=rfl;revert hm;refine VIf.b (fun h3410 hm=> ?_) (fun h3410 hm=> ?_);obtain⟨e3411,hx3412,hm⟩:=bd_some hm;refine⟨_,el_idx (fun _=>rfl) hx3412, ?_⟩;refine⟨([c_0.n.Light.Lo,c_0.n.Light.Hi]:List Int).flatMap cI,([c_0.n.Light.Lo,c_0.n.Light.Hi]:List Int).length,⟨rfl,rfl⟩, ?_⟩;obtain⟨ev3427,rr3431,he,hk3428,hb1,hb2⟩:=bindI_some hm;replace hp:=hp.in1 hb1;have hq3435:=hq.trans hb2;clear hq;clear hb1 hb2;refine LoopI.of (fun(lpx:Nat×Int)=>match lpx with|(fu3429,v3417)=>(⟨[(0, .v (.func (.yield l) #[] #[])),(1, .ptr [DI c_0.v.Source,DI c_0.v.Class,DI c_0.v.From,DI c_0.v.On.Lo,DI c_0.v.On.Hi,DI c_0.v.Off.Lo,DI c_0.v.Off.Hi,DI c_0.v.Moon,DI c_0.v.Fog,DI c_0.v.Known,DI c_0.v.Until,DI c_0.n.No,DI c_0.n.Set.Lo,DI c_0.n.Set.Hi,DI c_0.n.Rise.Lo,DI c_0.n.Rise.Hi,DI c_0.n.Light.Lo,DI c_0.n.Light.Hi,DI c_0.n.Fog] 0),(4,DB e2756),(6,DI e3333),(8,DI e3411),(11,lD 1 ([false,true]:List Bool) cB),(12,DI (([false,true]:List Bool).length:Int)),(13,DI v690),(14,DB (decide (v690<(([false,true]:List Bool).length:Int)))),(33,DB false),(42,lD 1 ([c_0.n.Set.Lo,c_0.n.Set.Hi]:List Int) cI),(43,DI (([c_0.n.Set.Lo,c_0.n.Set.Hi]:List Int).length:Int)),(44,DI v3157),(45,DB (decide (v3157<(([c_0.n.Set.Lo,c_0.n.Set.Hi]:List Int).length:Int)))),(56,lD 1 ([c_0.n.Rise.Lo,c_0.n.Rise.Hi]:List Int) cI),(57,DI (([c_0.n.Rise.Lo,c_0.n.Rise.Hi]:List Int).length:Int)),(58,DI v3352),(59,DB (decide (v3352<(([c_0.n.Rise.Lo,c_0.n.Rise.Hi]:List Int).length:Int)))),(70,lD 1 ([c_0.n.Light.Lo,c_0.n.Light.Hi]:List Int) cI),(71,DI (([c_0.n.Light.Lo,c_0.n.Light.Hi]:List Int).length:Int)),(72,DI v3417)], [],4⟩:Sy)) (fun lpx q=>∃e,loopIO (it_bylaw_window_ends_1_L118 c_0 e2756 e3333 e3411) lpx.1 lpx.2=some e∧Hp3 en_bylaw_window_ends_1 q e.1 _ _∧e.2=ev3427.2) (fun lpx=>lpx.1) (FUEL,0) ⟨_,he,hp,rfl⟩ (SubY.fz [3] rfl 4 rfl ⟨tR rfl,tR rfl,tR rfl,tR rfl,tR rfl,tR rfl,tR rfl,tR rfl,tR rfl,tR rfl,tR rfl,tR rfl,tR rfl,tR rfl,tR rfl,tR rfl,tR rfl,tR rfl,tR rfl,tR rfl,tR rfl,trivial⟩ trivial) ?_
 clear hp he;rintro⟨fu3429,v3417⟩ q ⟨el3433,hi3430,hp,hx3434⟩;obtain⟨fu3429,b,tl,rfl,hm,hb1,hi3430⟩:=loopI_step hi3430;replace hp:=hp.in1 hb1;clear hb1;have hq:b.2=b.2:=rfl;revert hm;refine VIf.b (fun h3436 hm=> ?_) (fun h3436 hm=> ?_);obtain⟨e3437,hx3438,hm⟩:=bd_some hm;refine⟨_,el_idx (fun _=>rfl) hx3438, ?_⟩;obtain⟨rb3439,hm,hb1,hb2⟩:=emit_some hm;refine YieldY.of (x':=en_bylaw_window_ends_1 (⟨e3333,e3411,e3437,e2756⟩:TTruth)) rfl rfl (RetY.le (leD.refl _)) (hp.pre hb1) ?_ ?_;replace hp:=hp.emit hb1;replace hq:=hq.trans hb2;cases hm;rw [hq]at hi3430;obtain⟨e2,hm,rfl,ht⟩:=hi3430;exact⟨(fu3429,(W (v3417+1))),_,SubY.of 4 rfl ⟨tR rfl,tR rfl,tR rfl,tR rfl,tR rfl,tR rfl,tR rfl,tR rfl,tR rfl,tR rfl,tR rfl,tR rfl,tR rfl,tR rfl,tR rfl,tR rfl,tR rfl,tR rfl,tR rfl,tR rfl,tR rfl,trivial⟩ trivial,rfl,⟨_,hm,hp.out rfl,ht.symm.trans hx3434⟩,Nat.lt_succ_self _⟩;exact .inl rfl;cases hm;rw [hq]at hi3430;obtain⟨rfl,ht⟩:=hi3430;replace hp:=(hp.out (l':= []) rfl).out rfl;have hm:=hk3428
 try rw [←hx3434,ht]at hm
 have hq:=hq3435;cases hm;rw [hq]at hi3404;obtain⟨e2,hm,rfl,ht⟩:=hi3404;exact⟨(fu3403,(W (v3352+1))),_,SubY.of 3 rfl ⟨tR rfl,tR rfl,tR rfl,tR rfl,tR rfl,tR rfl,tR rfl,tR rfl,tR rfl,tR rfl,tR rfl,tR rfl,tR rfl,tR rfl,tR rfl,tR rfl,trivial⟩ trivial,rfl,⟨_,hm,hp.out rfl,ht.symm.trans hx3408⟩,Nat.lt_succ_self _⟩;cases hm;rw [hq]at hi3404;obtain⟨rfl,ht⟩:=hi3404;replace hp:=(hp.out (l':= []) rfl).out rfl;have hm:=hk3402
 try rw [←hx3408,ht]at hm
 have hq:=hq3409;cases hm;rw [hq]at hi3326;obtain⟨e2,hm,rfl,ht⟩:=hi3326;exact⟨(fu3325,(W (v3157+1))),_,SubY.of 2 rfl ⟨tR rfl,tR rfl,tR rfl,tR rfl,tR rfl,tR rfl,tR rfl,tR rfl,tR rfl,tR rfl,tR rfl,trivial⟩ trivial,rfl,⟨_,hm,hp.out rfl,ht.symm.trans hx3330⟩,Nat.lt_succ_self _⟩;cases hm;rw [hq]at hi3326;obtain⟨rfl,ht⟩:=hi3326;replace hp:=(hp.out (l':= []) rfl).out rfl;have hm:=hk3324
 try rw [←hx3330,ht]at hm
 have hq:=hq3331;cases hm;rw [hq]at hi2749;obtain⟨e2,hm,rfl,ht⟩:=hi2749;exact⟨(fu2748,(W (v690+1))),_,SubY.of 1 rfl ⟨tR rfl,tR rfl,tR rfl,tR rfl,tR rfl,trivial⟩ trivial,rfl,⟨_,hm,hp.out rfl,ht.symm.trans hx2753⟩,Nat.lt_succ_self _⟩;revert hm;refine VIf.b (fun h3440 hm=> ?_) (fun h3440 hm=> ?_);revert hm;refine VIf.b (fun h3441 hm=> ?_) (fun h3441 hm=> ?_);cases hm;rw [hq]at hi2749;obtain⟨e2,hm,rfl,ht⟩:=hi2749;exact⟨(fu2748,(W (v690+1))),_,SubY.of 1 rfl ⟨tR rfl,tR rfl,tR rfl,tR rfl,tR rfl,trivial⟩ trivial,rfl,⟨_,hm,hp.out rfl,ht.symm.trans hx2753⟩,Nat.lt_succ_self _⟩;refine⟨([c_0.n.Set.Lo,c_0.n.Set.Hi]:List Int).flatMap cI,([c_0.n.Set.Lo,c_0.n.Set.Hi]:List Int).length,⟨rfl,rfl⟩, ?_⟩;obtain⟨ev3664,rr3668,he,hk3665,hb1,hb2⟩:=bindI_some hm;replace hp:=hp.in1 hb1;have hq3672:=hq.trans hb2;clear hq;clear hb1 hb2;refine LoopI.of (fun(lpx:Nat×Int)=>match lpx with|(fu3666,v3498)=>(⟨[(0, .v (.func (.yield l) #[] #[])),(1, .ptr [DI c_0.v.Source,DI c_0.v.Class,DI c_0.v.From,DI c_0.v.On.Lo,DI c_0.v.On.Hi,DI c_0.v.Off.Lo,DI c_0.v.Off.Hi,DI c_0.v.Moon,DI c_0.v.Fog,DI c_0.v.Known,DI c_0.v.Until,DI c_0.n.No,DI c_0.n.Set.Lo,DI c_0.n.Set.Hi,DI c_0.n.Rise.Lo,DI c_0.n.Rise.Hi,DI c_0.n.Light.Lo,DI c_0.n.Light.Hi,DI c_0.n.Fog] 0),(4,DB e2756),(11,lD 1 ([false,true]:List Bool) cB),(12,DI (([false,true]:List Bool).length:Int)),(13,DI v690),(14,DB (decide (v690<(([false,true]:List Bool).length:Int)))),(33,DB (c_0.n.Fog==1)),(42,lD 1 ([c_0.n.Set.Lo,c_0.n.Set.Hi]:List Int) cI),(43,DI (([c_0.n.Set.Lo,c_0.n.Set.Hi]:List Int).length:Int)),(44,DI v3498)], [],2⟩:Sy)) (fun lpx q=>∃e,loopIO (it_bylaw_window_ends_1_L114 c_0 e2756) lpx.1 lpx.2=some e∧Hp3 en_bylaw_window_ends_1 q e.1 _ _∧e.2=ev3664.2) (fun lpx=>lpx.1) (FUEL,0) ⟨_,he,hp,rfl⟩ (SubY.fz [1] rfl 2 rfl ⟨tR rfl,tR rfl,tR rfl,tR rfl,tR rfl,tR rfl,tR rfl,tR rfl,tR rfl,tR rfl,tR rfl,trivial⟩ trivial) ?_
 clear hp he;rintro⟨fu3666,v3498⟩ q ⟨el3670,hi3667,hp,hx3671⟩;obtain⟨fu3666,b,tl,rfl,hm,hb1,hi3667⟩:=loopI_step hi3667;replace hp:=hp.in1 hb1;clear hb1;have hq:b.2=b.2:=rfl;revert hm;refine VIf.b (fun h3673 hm=> ?_) (fun h3673 hm=> ?_);obtain⟨e3674,hx3675,hm⟩:=bd_some hm;refine⟨_,el_idx (fun _=>rfl) hx3675, ?_⟩;refine⟨([c_0.n.Rise.Lo,c_0.n.Rise.Hi]:List Int).flatMap cI,([c_0.n.Rise.Lo,c_0.n.Rise.Hi]:List Int).length,⟨rfl,rfl⟩, ?_⟩;obtain⟨ev3742,rr3746,he,hk3743,hb1,hb2⟩:=bindI_some hm;replace hp:=hp.in1 hb1;have hq3750:=hq.trans hb2;clear hq;clear hb1 hb2;refine LoopI.of (fun(lpx:Nat×Int)=>match lpx with|(fu3744,v3693)=>(⟨[(0, .v (.func (.yield l) #[] #[])),(1, .ptr [DI c_0.v.Source,DI c_0.v.Class,DI c_0.v.From,DI c_0.v.On.Lo,DI c_0.v.On.Hi,DI c_0.v.Off.Lo,DI c_0.v.Off.Hi,DI c_0.v.Moon,DI c_0.v.Fog,DI c_0.v.Known,DI c_0.v.Until,DI c_0.n.No,DI c_0.n.Set.Lo,DI c_0.n.Set.Hi,DI c_0.n.Rise.Lo,DI c_0.n.Rise.Hi,DI c_0.n.Light.Lo,DI c_0.n.Light.Hi,DI c_0.n.Fog] 0),(4,DB e2756),(6,DI e3674),(11,lD 1 ([false,true]:List Bool) cB),(12,DI (([false,true]:List Bool).length:Int)),(13,DI v690),(14,DB (decide (v690<(([false,true]:List Bool).length:Int)))),(33,DB (c_0.n.Fog==1)),(42,lD 1 ([c_0.n.Set.Lo,c_0.n.Set.Hi]:List Int) cI),(43,DI (([c_0.n.Set.Lo,c_0.n.Set.Hi]:List Int).length:Int)),(44,DI v3498),(45,DB (decide (v3498<(([c_0.n.Set.Lo,c_0.n.Set.Hi]:List Int).length:Int)))),(56,lD 1 ([c_0.n.Rise.Lo,c_0.n.Rise.Hi]:List Int) cI),(57,DI (([c_0.n.Rise.Lo,c_0.n.Rise.Hi]:List Int).length:Int)),(58,DI v3693)], [],3⟩:Sy)) (fun lpx q=>∃e,loopIO (it_bylaw_window_ends_1_L117 c_0 e2756 e3674) lpx.1 lpx.2=some e∧Hp3 en_bylaw_window_ends_1 q e.1 _ _∧e.2=ev3742.2) (fun lpx=>lpx.1) (FUEL,0) ⟨_,he,hp,rfl⟩ (SubY.fz [2] rfl 3 rfl ⟨tR rfl,tR rfl,tR rfl,tR rfl,tR rfl,tR rfl,tR rfl,tR rfl,tR rfl,tR rfl,tR rfl,tR rfl,tR rfl,tR rfl,tR rfl,tR rfl,trivial⟩ trivial) ?_
 clear hp he;rintro⟨fu3744,v3693⟩ q ⟨el3748,hi3745,hp,hx3749⟩;obtain⟨fu3744,b,tl,rfl,hm,hb1,hi3745⟩:=loopI_step hi3745;replace hp:=hp.in1 hb1;clear hb1;have hq:b.2=b.2:=rfl;revert hm;refine VIf.b (fun h3751 hm=> ?_) (fun h3751 hm=> ?_);obtain⟨e3752,hx3753,hm⟩:=bd_some hm;refine⟨_,el_idx (fun _=>rfl) hx3753, ?_⟩;refine⟨([c_0.n.Light.Lo,c_0.n.Light.Hi]:List Int).flatMap cI,([c_0.n.Light.Lo,c_0.n.Light.Hi]:List Int).length,⟨rfl,rfl⟩, ?_⟩;obtain⟨ev3768,rr3772,he,hk3769,hb1,hb2⟩:=bindI_some hm;replace hp:=hp.in1 hb1;have hq3776:=hq.trans hb2;clear hq;clear hb1 hb2;refine LoopI.of (fun(lpx:Nat×Int)=>match lpx with|(fu3770,v3758)=>(⟨[(0, .v (.func (.yield l) #[] #[])),(1, .ptr [DI c_0.v.Source,DI c_0.v.Class,DI c_0.v.From,DI c_0.v.On.Lo,DI c_0.v.On.Hi,DI c_0.v.Off.Lo,DI c_0.v.Off.Hi,DI c_0.v.Moon,DI c_0.v.Fog,DI c_0.v.Known,DI c_0.v.Until,DI c_0.n.No,DI c_0.n.Set.Lo,DI c_0.n.Set.Hi,DI c_0.n.Rise.Lo,DI c_0.n.Rise.Hi,DI c_0.n.Light.Lo,DI c_0.n.Light.Hi,DI c_0.n.Fog] 0),(4,DB e2756),(6,DI e3674),(8,DI e3752),(11,lD 1 ([false,true]:List Bool) cB),(12,DI (([false,true]:List Bool).length:Int)),(13,DI v690),(14,DB (decide (v690<(([false,true]:List Bool).length:Int)))),(33,DB (c_0.n.Fog==1)),(42,lD 1 ([c_0.n.Set.Lo,c_0.n.Set.Hi]:List Int) cI),(43,DI (([c_0.n.Set.Lo,c_0.n.Set.Hi]:List Int).length:Int)),(44,DI v3498),(45,DB (decide (v3498<(([c_0.n.Set.Lo,c_0.n.Set.Hi]:List Int).length:Int)))),(56,lD 1 ([c_0.n.Rise.Lo,c_0.n.Rise.Hi]:List Int) cI),(57,DI (([c_0.n.Rise.Lo,c_0.n.Rise.Hi]:List Int).length:Int)),(58,DI v3693),(59,DB (decide (v3693<(([c_0.n.Rise.Lo,c_0.n.Rise.Hi]:List Int).length:Int)))),(70,lD 1 ([c_0.n.Light.Lo,c_0.n.Light.Hi]:List Int) cI),(71,DI (([c_0.n.Light.Lo,c_0.n.Light.Hi]:List Int).length:Int)),(72,DI v3758)], [],4⟩:Sy)) (fun lpx q=>∃e,loopIO (it_bylaw_window_ends_1_L118 c_0 e2756 e3674 e3752) lpx.1 lpx.2=some e∧Hp3 en_bylaw_window_ends_1 q e.1 _ _∧e.2=ev3768.2) (fun lpx=>lpx.1) (FUEL,0) ⟨_,he,hp,rfl⟩ (SubY.fz [3] rfl 4 rfl ⟨tR rfl,tR rfl,tR rfl,tR rfl,tR rfl,tR rfl,tR rfl,tR rfl,tR rfl,tR rfl,tR rfl,tR rfl,tR rfl,tR rfl,tR rfl,tR rfl,tR rfl,tR rfl,tR rfl,tR rfl,tR rfl,trivial⟩ trivial) ?_
 clear hp he;rintro⟨fu3770,v3758⟩ q ⟨el3774,hi3771,hp,hx3775⟩;obtain⟨fu3770,b,tl,rfl,hm,hb1,hi3771⟩:=loopI_step hi3771;replace hp:=hp.in1 hb1;clear hb1;have hq:b.2=b.2:=rfl;revert hm;refine VIf.b (fun h3777 hm=> ?_) (fun h3777 hm=> ?_);obtain⟨e3778,hx3779,hm⟩:=bd_some hm;refine⟨_,el_idx (fun _=>rfl) hx3779, ?_⟩;obtain⟨rb3780,hm,hb1,hb2⟩:=emit_some hm;refine YieldY.of (x':=en_bylaw_window_ends_1 (⟨e3674,e3752,e3778,e2756⟩:TTruth)) rfl rfl (RetY.le (leD.refl _)) (hp.pre hb1) ?_ ?_;replace hp:=hp.emit hb1;replace hq:=hq.trans hb2;cases hm;rw [hq]at hi3771;obtain⟨e2,hm,rfl,ht⟩:=hi3771;exact⟨(fu3770,(W (v3758+1))),_,SubY.of 4 rfl ⟨tR rfl,tR rfl,tR rfl,tR rfl,tR rfl,tR rfl,tR rfl,tR rfl,tR rfl,tR rfl,tR rfl,tR rfl,tR rfl,tR rfl,tR rfl,tR rfl,tR rfl,tR rfl,tR rfl,tR rfl,tR rfl,trivial⟩ trivial,rfl,⟨_,hm,hp.out rfl,ht.symm.trans hx3775⟩,Nat.lt_succ_self _⟩;exact .inl rfl;cases hm;rw [hq]at hi3771;obtain⟨rfl,ht⟩:=hi3771;replace hp:=(hp.out (l':= []) rfl).out rfl;have hm:=hk3769
 try rw [←hx3775,ht]at hm
 have hq:=hq3776;cases hm;rw [hq]at hi3745;obtain⟨e2,hm,rfl,ht⟩:=hi3745;exact⟨(fu3744,(W (v3693+1))),_,SubY.of 3 rfl ⟨tR rfl,tR rfl,tR rfl,tR rfl,tR rfl,tR rfl,tR rfl,tR rfl,tR rfl,tR rfl,tR rfl,tR rfl,tR rfl,tR rfl,tR rfl,tR rfl,trivial⟩ trivial,rfl,⟨_,hm,hp.out rfl,ht.symm.trans hx3749⟩,Nat.lt_succ_self _⟩;cases hm;rw [hq]at hi3745;obtain⟨rfl,ht⟩:=hi3745;replace hp:=(hp.out (l':= []) rfl).out rfl;have hm:=hk3743
 try rw [←hx3749,ht]at hm
 have hq:=hq3750;cases hm;rw [hq]at hi3667;obtain⟨e2,hm,rfl,ht⟩:=hi3667;exact⟨(fu3666,(W (v3498+1))),_,SubY.of 2 rfl ⟨tR rfl,tR rfl,tR rfl,tR rfl,tR rfl,tR rfl,tR rfl,tR rfl,tR rfl,tR rfl,tR rfl,trivial⟩ trivial,rfl,⟨_,hm,hp.out rfl,ht.symm.trans hx3671⟩,Nat.lt_succ_self _⟩;cases hm;rw [hq]at hi3667;obtain⟨rfl,ht⟩:=hi3667;replace hp:=(hp.out (l':= []) rfl).out rfl;have hm:=hk3665
 try rw [←hx3671,ht]at hm
 have hq:=hq3672;cases hm;rw [hq]at hi2749;obtain⟨e2,hm,rfl,ht⟩:=hi2749;exact⟨(fu2748,(W (v690+1))),_,SubY.of 1 rfl ⟨tR rfl,tR rfl,tR rfl,tR rfl,tR rfl,trivial⟩ trivial,rfl,⟨_,hm,hp.out rfl,ht.symm.trans hx2753⟩,Nat.lt_succ_self _⟩;refine⟨([c_0.n.Set.Lo,c_0.n.Set.Hi]:List Int).flatMap cI,([c_0.n.Set.Lo,c_0.n.Set.Hi]:List Int).length,⟨rfl,rfl⟩, ?_⟩;obtain⟨ev4003,rr4007,he,hk4004,hb1,hb2⟩:=bindI_some hm;replace hp:=hp.in1 hb1;have hq4011:=hq.trans hb2;clear hq;clear hb1 hb2;refine LoopI.of (fun(lpx:Nat×Int)=>match lpx with|(fu4005,v3837)=>(⟨[(0, .v (.func (.yield l) #[] #[])),(1, .ptr [DI c_0.v.Source,DI c_0.v.Class,DI c_0.v.From,DI c_0.v.On.Lo,DI c_0.v.On.Hi,DI c_0.v.Off.Lo,DI c_0.v.Off.Hi,DI c_0.v.Moon,DI c_0.v.Fog,DI c_0.v.Known,DI c_0.v.Until,DI c_0.n.No,DI c_0.n.Set.Lo,DI c_0.n.Set.Hi,DI c_0.n.Rise.Lo,DI c_0.n.Rise.Hi,DI c_0.n.Light.Lo,DI c_0.n.Light.Hi,DI c_0.n.Fog] 0),(4,DB e2756),(11,lD 1 ([false,true]:List Bool) cB),(12,DI (([false,true]:List Bool).length:Int)),(13,DI v690),(14,DB (decide (v690<(([false,true]:List Bool).length:Int)))),(33,DB false),(42,lD 1 ([c_0.n.Set.Lo,c_0.n.Set.Hi]:List Int) cI),(43,DI (([c_0.n.Set.Lo,c_0.n.Set.Hi]:List Int).length:Int)),(44,DI v3837)], [],2⟩:Sy)) (fun lpx q=>∃e,loopIO (it_bylaw_window_ends_1_L114 c_0 e2756) lpx.1 lpx.2=some e∧Hp3 en_bylaw_window_ends_1 q e.1 _ _∧e.2=ev4003.2) (fun lpx=>lpx.1) (FUEL,0) ⟨_,he,hp,rfl⟩ (SubY.fz [1] rfl 2 rfl ⟨tR rfl,tR rfl,tR rfl,tR rfl,tR rfl,tR rfl,tR rfl,tR rfl,tR rfl,tR rfl,tR rfl,trivial⟩ trivial) ?_
 clear hp he;rintro⟨fu4005,v3837⟩ q ⟨el4009,hi4006,hp,hx4010⟩;obtain⟨fu4005,b,tl,rfl,hm,hb1,hi4006⟩:=loopI_step hi4006;replace hp:=hp.in1 hb1;clear hb1;have hq:b.2=b.2:=rfl;revert hm;refine VIf.b (fun h4012 hm=> ?_) (fun h4012 hm=> ?_);obtain⟨e4013,hx4014,hm⟩:=bd_some hm;refine⟨_,el_idx (fun _=>rfl) hx4014, ?_⟩;refine⟨([c_0.n.Rise.Lo,c_0.n.Rise.Hi]:List Int).flatMap cI,([c_0.n.Rise.Lo,c_0.n.Rise.Hi]:List Int).length,⟨rfl,rfl⟩, ?_⟩;obtain⟨ev4081,rr4085,he,hk4082,hb1,hb2⟩:=bindI_some hm;replace hp:=hp.in1 hb1;have hq4089:=hq.trans hb2;clear hq;clear hb1 hb2;refine LoopI.of (fun(lpx:Nat×Int)=>match lpx with|(fu4083,v4032)=>(⟨[(0, .v (.func (.yield l) #[] #[])),(1, .ptr [DI c_0.v.Source,DI c_0.v.Class,DI c_0.v.From,DI c_0.v.On.Lo,DI c_0.v.On.Hi,DI c_0.v.Off.Lo,DI c_0.v.Off.Hi,DI c_0.v.Moon,DI c_0.v.Fog,DI c_0.v.Known,DI c_0.v.Until,DI c_0.n.No,DI c_0.n.Set.Lo,DI c_0.n.Set.Hi,DI c_0.n.Rise.Lo,DI c_0.n.Rise.Hi,DI c_0.n.Light.Lo,DI c_0.n.Light.Hi,DI c_0.n.Fog] 0),(4,DB e2756),(6,DI e4013),(11,lD 1 ([false,true]:List Bool) cB),(12,DI (([false,true]:List Bool).length:Int)),(13,DI v690),(14,DB (decide (v690<(([false,true]:List Bool).length:Int)))),(33,DB false),(42,lD 1 ([c_0.n.Set.Lo,c_0.n.Set.Hi]:List Int) cI),(43,DI (([c_0.n.Set.Lo,c_0.n.Set.Hi]:List Int).length:Int)),(44,DI v3837),(45,DB (decide (v3837<(([c_0.n.Set.Lo,c_0.n.Set.Hi]:List Int).length:Int)))),(56,lD 1 ([c_0.n.Rise.Lo,c_0.n.Rise.Hi]:List Int) cI),(57,DI (([c_0.n.Rise.Lo,c_0.n.Rise.Hi]:List Int).length:Int)),(58,DI v4032)], [],3⟩:Sy)) (fun lpx q=>∃e,loopIO (it_bylaw_window_ends_1_L117 c_0 e2756 e4013) lpx.1 lpx.2=some e∧Hp3 en_bylaw_window_ends_1 q e.1 _ _∧e.2=ev4081.2) (fun lpx=>lpx.1) (FUEL,0) ⟨_,he,hp,rfl⟩ (SubY.fz [2] rfl 3 rfl ⟨tR rfl,tR rfl,tR rfl,tR rfl,tR rfl,tR rfl,tR rfl,tR rfl,tR rfl,tR rfl,tR rfl,tR rfl,tR rfl,tR rfl,tR rfl,tR rfl,trivial⟩ trivial) ?_
 clear hp he;rintro⟨fu4083,v4032⟩ q ⟨el4087,hi4084,hp,hx4088⟩;obtain⟨fu4083,b,tl,rfl,hm,hb1,hi4084⟩:=loopI_step hi4084;replace hp:=hp.in1 hb1;clear hb1;have hq:b.2=b.2:=rfl;revert hm;refine VIf.b (fun h4090 hm=> ?_) (fun h4090 hm=> ?_);obtain⟨e4091,hx4092,hm⟩:=bd_some hm;refine⟨_,el_idx (fun _=>rfl) hx4092, ?_⟩;refine⟨([c_0.n.Light.Lo,c_0.n.Light.Hi]:List Int).flatMap cI,([c_0.n.Light.Lo,c_0.n.Light.Hi]:List Int).length,⟨rfl,rfl⟩, ?_⟩;obtain⟨ev4107,rr4111,he,hk4108,hb1,hb2⟩:=bindI_some hm;replace hp:=hp.in1 hb1;have hq4115:=hq.trans hb2;clear hq;clear hb1 hb2;refine LoopI.of (fun(lpx:Nat×Int)=>match lpx with|(fu4109,v4097)=>(⟨[(0, .v (.func (.yield l) #[] #[])),(1, .ptr [DI c_0.v.Source,DI c_0.v.Class,DI c_0.v.From,DI c_0.v.On.Lo,DI c_0.v.On.Hi,DI c_0.v.Off.Lo,DI c_0.v.Off.Hi,DI c_0.v.Moon,DI c_0.v.Fog,DI c_0.v.Known,DI c_0.v.Until,DI c_0.n.No,DI c_0.n.Set.Lo,DI c_0.n.Set.Hi,DI c_0.n.Rise.Lo,DI c_0.n.Rise.Hi,DI c_0.n.Light.Lo,DI c_0.n.Light.Hi,DI c_0.n.Fog] 0),(4,DB e2756),(6,DI e4013),(8,DI e4091),(11,lD 1 ([false,true]:List Bool) cB),(12,DI (([false,true]:List Bool).length:Int)),(13,DI v690),(14,DB (decide (v690<(([false,true]:List Bool).length:Int)))),(33,DB false),(42,lD 1 ([c_0.n.Set.Lo,c_0.n.Set.Hi]:List Int) cI),(43,DI (([c_0.n.Set.Lo,c_0.n.Set.Hi]:List Int).length:Int)),(44,DI v3837),(45,DB (decide (v3837<(([c_0.n.Set.Lo,c_0.n.Set.Hi]:List Int).length:Int)))),(56,lD 1 ([c_0.n.Rise.Lo,c_0.n.Rise.Hi]:List Int) cI),(57,DI (([c_0.n.Rise.Lo,c_0.n.Rise.Hi]:List Int).length:Int)),(58,DI v4032),(59,DB (decide (v4032<(([c_0.n.Rise.Lo,c_0.n.Rise.Hi]:List Int).length:Int)))),(70,lD 1 ([c_0.n.Light.Lo,c_0.n.Light.Hi]:List Int) cI),(71,DI (([c_0.n.Light.Lo,c_0.n.Light.Hi]:List Int).length:Int)),(72,DI v4097)], [],4⟩:Sy)) (fun lpx q=>∃e,loopIO (it_bylaw_window_ends_1_L118 c_0 e2756 e4013 e4091) lpx.1 lpx.2=some e∧Hp3 en_bylaw_window_ends_1 q e.1 _ _∧e.2=ev4107.2) (fun lpx=>lpx.1) (FUEL,0) ⟨_,he,hp,rfl⟩ (SubY.fz [3] rfl 4 rfl ⟨tR rfl,tR rfl,tR rfl,tR rfl,tR rfl,tR rfl,tR rfl,tR rfl,tR rfl,tR rfl,tR rfl,tR rfl,tR rfl,tR rfl,tR rfl,tR rfl,tR rfl,tR rfl,tR rfl,tR rfl,tR rfl,trivial⟩ trivial) ?_
 clear hp he;rintro⟨fu4109,v4097⟩ q ⟨el4113,hi4110,hp,hx4114⟩;obtain⟨fu4109,b,tl,rfl,hm,hb1,hi4110⟩:=loopI_step hi4110;replace hp:=hp.in1 hb1;clear hb1;have hq:b.2=b.2:=rfl;revert hm;refine VIf.b (fun h4116 hm=> ?_) (fun h4116 hm=> ?_);obtain⟨e4117,hx4118,hm⟩:=bd_some hm;refine⟨_,el_idx (fun _=>rfl) hx4118, ?_⟩;obtain⟨rb4119,hm,hb1,hb2⟩:=emit_some hm;refine YieldY.of (x':=en_bylaw_window_ends_1 (⟨e4013,e4091,e4117,e2756⟩:TTruth)) rfl rfl (RetY.le (leD.refl _)) (hp.pre hb1) ?_ ?_;replace hp:=hp.emit hb1;replace hq:=hq.trans hb2;cases hm;rw [hq]at hi4110;obtain⟨e2,hm,rfl,ht⟩:=hi4110;exact⟨(fu4109,(W (v4097+1))),_,SubY.of 4 rfl ⟨tR rfl,tR rfl,tR rfl,tR rfl,tR rfl,tR rfl,tR rfl,tR rfl,tR rfl,tR rfl,tR rfl,tR rfl,tR rfl,tR rfl,tR rfl,tR rfl,tR rfl,tR rfl,tR rfl,tR rfl,tR rfl,trivial⟩ trivial,rfl,⟨_,hm,hp.out rfl,ht.symm.trans hx4114⟩,Nat.lt_succ_self _⟩;exact .inl rfl;cases hm;rw [hq]at hi4110;obtain⟨rfl,ht⟩:=hi4110;replace hp:=(hp.out (l':= []) rfl).out rfl;have hm:=hk4108
 try rw [←hx4114,ht]at hm
 have hq:=hq4115;cases hm;rw [hq]at hi4084;obtain⟨e2,hm,rfl,ht⟩:=hi4084;exact⟨(fu4083,(W (v4032+1))),_,SubY.of 3 rfl ⟨tR rfl,tR rfl,tR rfl,tR rfl,tR rfl,tR rfl,tR rfl,tR rfl,tR rfl,tR rfl,tR rfl,tR rfl,tR rfl,tR rfl,tR rfl,tR rfl,trivial⟩ trivial,rfl,⟨_,hm,hp.out rfl,ht.symm.trans hx4088⟩,Nat.lt_succ_self _⟩;cases hm;rw [hq]at hi4084;obtain⟨rfl,ht⟩:=hi4084;replace hp:=(hp.out (l':= []) rfl).out rfl;have hm:=hk4082
 try rw [←hx4088,ht]at hm
 have hq:=hq4089;cases hm;rw [hq]at hi4006;obtain⟨e2,hm,rfl,ht⟩:=hi4006;exact⟨(fu4005,(W (v3837+1))),_,SubY.of 2 rfl ⟨tR rfl,tR rfl,tR rfl,tR rfl,tR rfl,tR rfl,tR rfl,tR rfl,tR rfl,tR rfl,tR rfl,trivial⟩ trivial,rfl,⟨_,hm,hp.out rfl,ht.symm.trans hx4010⟩,Nat.lt_succ_self _⟩;cases hm;rw [hq]at hi4006;obtain⟨rfl,ht⟩:=hi4006;replace hp:=(hp.out (l':= []) rfl).out rfl;have hm:=hk4004
 try rw [←hx4010,ht]at hm
 have hq:=hq4011;cases hm;rw [hq]at hi2749;obtain⟨e2,hm,rfl,ht⟩:=hi2749;exact⟨(fu2748,(W (v690+1))),_,SubY.of 1 rfl ⟨tR rfl,tR rfl,tR rfl,tR rfl,tR rfl,trivial⟩ trivial,rfl,⟨_,hm,hp.out rfl,ht.symm.trans hx2753⟩,Nat.lt_succ_self _⟩;cases hm;rw [hq]at hi2749;obtain⟨rfl,ht⟩:=hi2749;replace hp:=(hp.out (l':= []) rfl).out rfl;have hm:=hk2747
 try rw [←hx2753,ht]at hm
 clear hq;cases hm;exact .inr (congrArg some (hp.done rfl))
def m_bylaw_window_may_L1 (w:Twindow) (t:TTimes) (x3:Bool):Bool→TTruth→Option (Sum Bool Bool):=fun v20 y7=>
 if y7.Fog=true then
  if(decide (t.On≥0))=true then
   if x3=true then
    Option.bind (m_bylaw_in t.On (W ((W (w.n.Set.Lo+w.v.On.Lo))-w.v.Fog)) (W ((W (w.n.Set.Hi+w.v.On.Hi))-w.v.Fog))) fun x36=>
    if x36=true then
     some (.inr true)
    else
     some (.inl v20)
   else
    some (.inl v20)
  else
   some (.inl v20)
 else
  if(decide (t.On≥0))=true then
   if x3=true then
    if(decide (y7.Light<w.v.Moon))=true then
     Option.bind (m_bylaw_in t.On (W ((W (w.n.Set.Lo+w.v.On.Lo))-0)) (W ((W (w.n.Set.Hi+w.v.On.Hi))-0))) fun x42=>
     if x42=true then
      some (.inr true)
     else
      some (.inl v20)
    else
     some (.inl v20)
   else
    some (.inl v20)
  else
   some (.inl v20)
def m_bylaw_window_may (w:Twindow) (t:TTimes):Option Bool:=
 if(w.n.Fog !=1)=true then
  if(decide (w.n.Light.Hi≥w.v.Moon))=true then
   some true
  else
   Option.bind (m_bylaw_in t.Off (W (w.n.Rise.Lo-w.v.Off.Hi)) (W (w.n.Rise.Hi-w.v.Off.Lo))) fun x3=>
   Option.bind (m_bylaw_window_ends w) fun x5=>
   Option.bind (it_bylaw_window_ends_1 x5) fun l45=>
   Option.bind (rangeF (m_bylaw_window_may_L1 w t x3) l45.1 false) fun e=>
   match e with
   | .inl v46=>
    some false
   | .inr v47=>
    some v47
 else
  Option.bind (m_bylaw_in t.Off (W (w.n.Rise.Lo-w.v.Off.Hi)) (W (w.n.Rise.Hi-w.v.Off.Lo))) fun x62=>
  Option.bind (m_bylaw_window_ends w) fun x64=>
  Option.bind (it_bylaw_window_ends_1 x64) fun l104=>
  Option.bind (rangeF (m_bylaw_window_may_L1 w t x62) l104.1 false) fun e=>
  match e with
  | .inl v105=>
   some false
  | .inr v106=>
   some v106
theorem d_bylaw_window_may (w:Twindow) (t:TTimes) (r:Bool) (hm:m_bylaw_window_may w t=some r):Does Tryz.prog 57 [.agg (Twindow.c w), .agg (TTimes.c t)] (fun x=>x=DB r):=by
 refine does_zr (X:=⟨Tryz.prog,tt,Tryz.f57.ntmps, [], [], [], [], [], []⟩) pok _ Tryz.func57 rfl rfl (Nat.le_of_ble_eq_true rfl) ?_;intro ds;intro ds;revert hm;refine VIf.b (fun h1 hm=> ?_) (fun h1 hm=> ?_);revert hm;refine VIf.b (fun h2 hm=> ?_) (fun h2 hm=> ?_);intro ds;intro ds;cases hm;exact RetY.le (leD.refl _);intro ds;intro ds;obtain⟨x3,hx4,hm⟩:=bd_some hm;refine CallY.det (d_bylaw_in t.Off (W (w.n.Rise.Lo-w.v.Off.Hi)) (W (w.n.Rise.Hi-w.v.Off.Lo)) _ hx4) ?_;intro ds;obtain⟨x5,hx6,hm⟩:=bd_some hm;refine CallY.det (d_bylaw_window_ends w _ hx6) ?_;obtain⟨l45,hl49,hm⟩:=bd_some hm;obtain⟨ev48,he,hm⟩:=bd_some hm;refine RangeY.ofZ (E:=Bool) en_bylaw_window_ends_1 l45.1 (m_bylaw_window_may_L1 w t x3) (fun(lpx:Bool)=>match lpx with|v20=>(⟨[(0, .agg [DI w.v.Source,DI w.v.Class,DI w.v.From,DI w.v.On.Lo,DI w.v.On.Hi,DI w.v.Off.Lo,DI w.v.Off.Hi,DI w.v.Moon,DI w.v.Fog,DI w.v.Known,DI w.v.Until,DI w.n.No,DI w.n.Set.Lo,DI w.n.Set.Hi,DI w.n.Rise.Lo,DI w.n.Rise.Hi,DI w.n.Light.Lo,DI w.n.Light.Hi,DI w.n.Fog]),(1, .agg [DI t.On,DI t.Off]),(2, .own 0 0),(3, .own 1 0),(4, .own 2 0),(5, .own 3 0),(21,DB (decide (w.n.Light.Hi≥w.v.Moon)))], [(0, .blk [DI w.v.Source,DI w.v.Class,DI w.v.From,DI w.v.On.Lo,DI w.v.On.Hi,DI w.v.Off.Lo,DI w.v.Off.Hi,DI w.v.Moon,DI w.v.Fog,DI w.v.Known,DI w.v.Until,DI w.n.No,DI w.n.Set.Lo,DI w.n.Set.Hi,DI w.n.Rise.Lo,DI w.n.Rise.Hi,DI w.n.Light.Lo,DI w.n.Light.Hi,DI w.n.Fog] 90),(1, .blk [DI t.On,DI t.Off] 68),(2, .blk [DB v20] 4),(3, .blk [DB x3] 4)],4⟩:Sy)) (fun(lpx:Bool)=>match lpx with|v20=>(⟨[(0, .agg [DI w.v.Source,DI w.v.Class,DI w.v.From,DI w.v.On.Lo,DI w.v.On.Hi,DI w.v.Off.Lo,DI w.v.Off.Hi,DI w.v.Moon,DI w.v.Fog,DI w.v.Known,DI w.v.Until,DI w.n.No,DI w.n.Set.Lo,DI w.n.Set.Hi,DI w.n.Rise.Lo,DI w.n.Rise.Hi,DI w.n.Light.Lo,DI w.n.Light.Hi,DI w.n.Fog]),(1, .agg [DI t.On,DI t.Off]),(2, .own 0 0),(3, .own 1 0),(4, .own 2 0),(5, .own 3 0),(21,DB (decide (w.n.Light.Hi≥w.v.Moon)))], [(0, .blk [DI w.v.Source,DI w.v.Class,DI w.v.From,DI w.v.On.Lo,DI w.v.On.Hi,DI w.v.Off.Lo,DI w.v.Off.Hi,DI w.v.Moon,DI w.v.Fog,DI w.v.Known,DI w.v.Until,DI w.n.No,DI w.n.Set.Lo,DI w.n.Set.Hi,DI w.n.Rise.Lo,DI w.n.Rise.Hi,DI w.n.Light.Lo,DI w.n.Light.Hi,DI w.n.Fog] 90),(1, .blk [DI t.On,DI t.Off] 68),(2, .blk [DB v20] 4),(3, .blk [DB x3] 4)],4⟩:Sy)) (fun _=> .ret) false ev48 [0,1,2,3,4,5,21] (i_bylaw_window_ends_1 x5 l45.1 hl49) he (enters_f pok Tryz.func83 rfl) rfl rfl (fun _=>rfl) rfl rfl rfl (by rintro v20;rfl) (by rintro v20;rfl) (SubY.of 4 rfl ⟨tR rfl,tR rfl,tR rfl,tR rfl,tR rfl,tR rfl,tR rfl,trivial⟩ ⟨hR rfl,hR rfl,hR rfl,hR rfl,trivial⟩) ?_ ?_ (fun _=> .inl rfl) ?_
 rintro v46 rfl;intro ds;intro ds;cases hm;exact RetY.le (leD.refl _);rintro v47 rfl;cases hm;exact RetY.le (leD.refl _);clear he hm;rintro v20 y7 b hm;revert hm;refine VIf.b (fun h50 hm=> ?_) (fun h50 hm=> ?_);revert hm;refine VIf.b (fun h51 hm=> ?_) (fun h51 hm=> ?_);revert hm;refine VIf.b (fun h52 hm=> ?_) (fun h52 hm=> ?_);refine VIf.t h50 ?_;obtain⟨x53,hx54,hm⟩:=bd_some hm;refine CallY.det (d_bylaw_in t.On (W ((W (w.n.Set.Lo+w.v.On.Lo))-w.v.Fog)) (W ((W (w.n.Set.Hi+w.v.On.Hi))-w.v.Fog)) _ hx54) ?_;revert hm;refine VIf.b (fun h55 hm=> ?_) (fun h55 hm=> ?_);cases hm;exact⟨true,rfl,rfl,SubY.of 4 rfl ⟨tR rfl,tR rfl,tR rfl,tR rfl,tR rfl,tR rfl,tR rfl,trivial⟩ ⟨hR rfl,hR rfl,hR rfl,hR rfl,trivial⟩⟩;cases hm;exact⟨v20,rfl,SubY.of 4 rfl ⟨tR rfl,tR rfl,tR rfl,tR rfl,tR rfl,tR rfl,tR rfl,trivial⟩ ⟨hR rfl,hR rfl,hR rfl,hR rfl,trivial⟩⟩;cases hm;exact⟨v20,rfl,SubY.of 4 rfl ⟨tR rfl,tR rfl,tR rfl,tR rfl,tR rfl,tR rfl,tR rfl,trivial⟩ ⟨hR rfl,hR rfl,hR rfl,hR rfl,trivial⟩⟩;cases hm;exact⟨v20,rfl,SubY.of 4 rfl ⟨tR rfl,tR rfl,tR rfl,tR rfl,tR rfl,tR rfl,tR rfl,trivial⟩ ⟨hR rfl,hR rfl,hR rfl,hR rfl,trivial⟩⟩;revert hm;refine VIf.b (fun h56 hm=> ?_) (fun h56 hm=> ?_);revert hm;refine VIf.b (fun h57 hm=> ?_) (fun h57 hm=> ?_);refine VIf.f h50 ?_;revert hm;refine VIf.b (fun h58 hm=> ?_) (fun h58 hm=> ?_);obtain⟨x59,hx60,hm⟩:=bd_some hm;refine CallY.det (d_bylaw_in t.On (W ((W (w.n.Set.Lo+w.v.On.Lo))-0)) (W ((W (w.n.Set.Hi+w.v.On.Hi))-0)) _ hx60) ?_;revert hm;refine VIf.b (fun h61 hm=> ?_) (fun h61 hm=> ?_);cases hm;exact⟨true,rfl,rfl,SubY.of 4 rfl ⟨tR rfl,tR rfl,tR rfl,tR rfl,tR rfl,tR rfl,tR rfl,trivial⟩ ⟨hR rfl,hR rfl,hR rfl,hR rfl,trivial⟩⟩;cases hm;exact⟨v20,rfl,SubY.of 4 rfl ⟨tR rfl,tR rfl,tR rfl,tR rfl,tR rfl,tR rfl,tR rfl,trivial⟩ ⟨hR rfl,hR rfl,hR rfl,hR rfl,trivial⟩⟩;cases hm;exact⟨v20,rfl,SubY.of 4 rfl ⟨tR rfl,tR rfl,tR rfl,tR rfl,tR rfl,tR rfl,tR rfl,trivial⟩ ⟨hR rfl,hR rfl,hR rfl,hR rfl,trivial⟩⟩;cases hm;exact⟨v20,rfl,SubY.of 4 rfl ⟨tR rfl,tR rfl,tR rfl,tR rfl,tR rfl,tR rfl,tR rfl,trivial⟩ ⟨hR rfl,hR rfl,hR rfl,hR rfl,trivial⟩⟩;cases hm;exact⟨v20,rfl,SubY.of 4 rfl ⟨tR rfl,tR rfl,tR rfl,tR rfl,tR rfl,tR rfl,tR rfl,trivial⟩ ⟨hR rfl,hR rfl,hR rfl,hR rfl,trivial⟩⟩;intro ds;intro ds;obtain⟨x62,hx63,hm⟩:=bd_some hm;refine CallY.det (d_bylaw_in t.Off (W (w.n.Rise.Lo-w.v.Off.Hi)) (W (w.n.Rise.Hi-w.v.Off.Lo)) _ hx63) ?_;intro ds;obtain⟨x64,hx65,hm⟩:=bd_some hm;refine CallY.det (d_bylaw_window_ends w _ hx65) ?_;obtain⟨l104,hl108,hm⟩:=bd_some hm;obtain⟨ev107,he,hm⟩:=bd_some hm;refine RangeY.ofZ (E:=Bool) en_bylaw_window_ends_1 l104.1 (m_bylaw_window_may_L1 w t x62) (fun(lpx:Bool)=>match lpx with|v79=>(⟨[(0, .agg [DI w.v.Source,DI w.v.Class,DI w.v.From,DI w.v.On.Lo,DI w.v.On.Hi,DI w.v.Off.Lo,DI w.v.Off.Hi,DI w.v.Moon,DI w.v.Fog,DI w.v.Known,DI w.v.Until,DI w.n.No,DI w.n.Set.Lo,DI w.n.Set.Hi,DI w.n.Rise.Lo,DI w.n.Rise.Hi,DI w.n.Light.Lo,DI w.n.Light.Hi,DI w.n.Fog]),(1, .agg [DI t.On,DI t.Off]),(2, .own 0 0),(3, .own 1 0),(4, .own 2 0),(5, .own 3 0),(21,DB false)], [(0, .blk [DI w.v.Source,DI w.v.Class,DI w.v.From,DI w.v.On.Lo,DI w.v.On.Hi,DI w.v.Off.Lo,DI w.v.Off.Hi,DI w.v.Moon,DI w.v.Fog,DI w.v.Known,DI w.v.Until,DI w.n.No,DI w.n.Set.Lo,DI w.n.Set.Hi,DI w.n.Rise.Lo,DI w.n.Rise.Hi,DI w.n.Light.Lo,DI w.n.Light.Hi,DI w.n.Fog] 90),(1, .blk [DI t.On,DI t.Off] 68),(2, .blk [DB v79] 4),(3, .blk [DB x62] 4)],4⟩:Sy)) (fun(lpx:Bool)=>match lpx with|v79=>(⟨[(0, .agg [DI w.v.Source,DI w.v.Class,DI w.v.From,DI w.v.On.Lo,DI w.v.On.Hi,DI w.v.Off.Lo,DI w.v.Off.Hi,DI w.v.Moon,DI w.v.Fog,DI w.v.Known,DI w.v.Until,DI w.n.No,DI w.n.Set.Lo,DI w.n.Set.Hi,DI w.n.Rise.Lo,DI w.n.Rise.Hi,DI w.n.Light.Lo,DI w.n.Light.Hi,DI w.n.Fog]),(1, .agg [DI t.On,DI t.Off]),(2, .own 0 0),(3, .own 1 0),(4, .own 2 0),(5, .own 3 0),(21,DB false)], [(0, .blk [DI w.v.Source,DI w.v.Class,DI w.v.From,DI w.v.On.Lo,DI w.v.On.Hi,DI w.v.Off.Lo,DI w.v.Off.Hi,DI w.v.Moon,DI w.v.Fog,DI w.v.Known,DI w.v.Until,DI w.n.No,DI w.n.Set.Lo,DI w.n.Set.Hi,DI w.n.Rise.Lo,DI w.n.Rise.Hi,DI w.n.Light.Lo,DI w.n.Light.Hi,DI w.n.Fog] 90),(1, .blk [DI t.On,DI t.Off] 68),(2, .blk [DB v79] 4),(3, .blk [DB x62] 4)],4⟩:Sy)) (fun _=> .ret) false ev107 [0,1,2,3,4,5,21] (i_bylaw_window_ends_1 x64 l104.1 hl108) he (enters_f pok Tryz.func83 rfl) rfl rfl (fun _=>rfl) rfl rfl rfl (by rintro v79;rfl) (by rintro v79;rfl) (SubY.of 4 rfl ⟨tR rfl,tR rfl,tR rfl,tR rfl,tR rfl,tR rfl,tR rfl,trivial⟩ ⟨hR rfl,hR rfl,hR rfl,hR rfl,trivial⟩) ?_ ?_ (fun _=> .inl rfl) ?_
 rintro v105 rfl;intro ds;intro ds;cases hm;exact RetY.le (leD.refl _);rintro v106 rfl;cases hm;exact RetY.le (leD.refl _);clear he hm;rintro v79 y66 b hm;revert hm;refine VIf.b (fun h109 hm=> ?_) (fun h109 hm=> ?_);revert hm;refine VIf.b (fun h110 hm=> ?_) (fun h110 hm=> ?_);revert hm;refine VIf.b (fun h111 hm=> ?_) (fun h111 hm=> ?_);refine VIf.t h109 ?_;obtain⟨x112,hx113,hm⟩:=bd_some hm;refine CallY.det (d_bylaw_in t.On (W ((W (w.n.Set.Lo+w.v.On.Lo))-w.v.Fog)) (W ((W (w.n.Set.Hi+w.v.On.Hi))-w.v.Fog)) _ hx113) ?_;revert hm;refine VIf.b (fun h114 hm=> ?_) (fun h114 hm=> ?_);cases hm;exact⟨true,rfl,rfl,SubY.of 4 rfl ⟨tR rfl,tR rfl,tR rfl,tR rfl,tR rfl,tR rfl,tR rfl,trivial⟩ ⟨hR rfl,hR rfl,hR rfl,hR rfl,trivial⟩⟩;cases hm;exact⟨v79,rfl,SubY.of 4 rfl ⟨tR rfl,tR rfl,tR rfl,tR rfl,tR rfl,tR rfl,tR rfl,trivial⟩ ⟨hR rfl,hR rfl,hR rfl,hR rfl,trivial⟩⟩;cases hm;exact⟨v79,rfl,SubY.of 4 rfl ⟨tR rfl,tR rfl,tR rfl,tR rfl,tR rfl,tR rfl,tR rfl,trivial⟩ ⟨hR rfl,hR rfl,hR rfl,hR rfl,trivial⟩⟩;cases hm;exact⟨v79,rfl,SubY.of 4 rfl ⟨tR rfl,tR rfl,tR rfl,tR rfl,tR rfl,tR rfl,tR rfl,trivial⟩ ⟨hR rfl,hR rfl,hR rfl,hR rfl,trivial⟩⟩;revert hm;refine VIf.b (fun h115 hm=> ?_) (fun h115 hm=> ?_);revert hm;refine VIf.b (fun h116 hm=> ?_) (fun h116 hm=> ?_);refine VIf.f h109 ?_;revert hm;refine VIf.b (fun h117 hm=> ?_) (fun h117 hm=> ?_);obtain⟨x118,hx119,hm⟩:=bd_some hm;refine CallY.det (d_bylaw_in t.On (W ((W (w.n.Set.Lo+w.v.On.Lo))-0)) (W ((W (w.n.Set.Hi+w.v.On.Hi))-0)) _ hx119) ?_;revert hm;refine VIf.b (fun h120 hm=> ?_) (fun h120 hm=> ?_);cases hm;exact⟨true,rfl,rfl,SubY.of 4 rfl ⟨tR rfl,tR rfl,tR rfl,tR rfl,tR rfl,tR rfl,tR rfl,trivial⟩ ⟨hR rfl,hR rfl,hR rfl,hR rfl,trivial⟩⟩;cases hm;exact⟨v79,rfl,SubY.of 4 rfl ⟨tR rfl,tR rfl,tR rfl,tR rfl,tR rfl,tR rfl,tR rfl,trivial⟩ ⟨hR rfl,hR rfl,hR rfl,hR rfl,trivial⟩⟩;cases hm;exact⟨v79,rfl,SubY.of 4 rfl ⟨tR rfl,tR rfl,tR rfl,tR rfl,tR rfl,tR rfl,tR rfl,trivial⟩ ⟨hR rfl,hR rfl,hR rfl,hR rfl,trivial⟩⟩;cases hm;exact⟨v79,rfl,SubY.of 4 rfl ⟨tR rfl,tR rfl,tR rfl,tR rfl,tR rfl,tR rfl,tR rfl,trivial⟩ ⟨hR rfl,hR rfl,hR rfl,hR rfl,trivial⟩⟩;cases hm;exact⟨v79,rfl,SubY.of 4 rfl ⟨tR rfl,tR rfl,tR rfl,tR rfl,tR rfl,tR rfl,tR rfl,trivial⟩ ⟨hR rfl,hR rfl,hR rfl,hR rfl,trivial⟩⟩
def m_bylaw_lawful (v:TVersion) (x:TTruth) (t:TTimes):Option Bool:=
 if(!x.Fog)=true then
  if(decide (x.Light≥v.Moon))=true then
   some true
  else
   if x.Fog=true then
    if(decide (t.On≥0))=true then
     Option.bind (m_bylaw_in t.On (W ((W (x.Set+v.On.Lo))-v.Fog)) (W ((W (x.Set+v.On.Hi))-v.Fog))) fun x5=>
     if x5=true then
      Option.bind (m_bylaw_in t.Off (W (x.Rise-v.Off.Hi)) (W (x.Rise-v.Off.Lo))) fun x8=>
      some x8
     else
      some false
    else
     some false
   else
    if(decide (t.On≥0))=true then
     Option.bind (m_bylaw_in t.On (W ((W (x.Set+v.On.Lo))-0)) (W ((W (x.Set+v.On.Hi))-0))) fun x11=>
     if x11=true then
      Option.bind (m_bylaw_in t.Off (W (x.Rise-v.Off.Hi)) (W (x.Rise-v.Off.Lo))) fun x14=>
      some x14
     else
      some false
    else
     some false
 else
  if x.Fog=true then
   if(decide (t.On≥0))=true then
    Option.bind (m_bylaw_in t.On (W ((W (x.Set+v.On.Lo))-v.Fog)) (W ((W (x.Set+v.On.Hi))-v.Fog))) fun x18=>
    if x18=true then
     Option.bind (m_bylaw_in t.Off (W (x.Rise-v.Off.Hi)) (W (x.Rise-v.Off.Lo))) fun x21=>
     some x21
    else
     some false
   else
    some false
  else
   if(decide (t.On≥0))=true then
    Option.bind (m_bylaw_in t.On (W ((W (x.Set+v.On.Lo))-0)) (W ((W (x.Set+v.On.Hi))-0))) fun x24=>
    if x24=true then
     Option.bind (m_bylaw_in t.Off (W (x.Rise-v.Off.Hi)) (W (x.Rise-v.Off.Lo))) fun x27=>
     some x27
    else
     some false
   else
    some false
theorem d_bylaw_lawful (v:TVersion) (x:TTruth) (t:TTimes) (r:Bool) (hm:m_bylaw_lawful v x t=some r):Does Tryz.prog 59 [.agg (TVersion.c v), .agg (TTruth.c x), .agg (TTimes.c t)] (fun x=>x=DB r):=by
 refine does_zy (X:=⟨Tryz.prog,tt,Tryz.f59.ntmps, [], [], [], [], [], []⟩) pok _ Tryz.func59 rfl rfl (Nat.le_of_ble_eq_true rfl) ?_;revert hm;refine VIf.b (fun h1 hm=> ?_) (fun h1 hm=> ?_);revert hm;refine VIf.b (fun h2 hm=> ?_) (fun h2 hm=> ?_);cases hm;exact RetY.le (leD.refl _);revert hm;refine VIf.b (fun h3 hm=> ?_) (fun h3 hm=> ?_);revert hm;refine VIf.b (fun h4 hm=> ?_) (fun h4 hm=> ?_);obtain⟨x5,hx6,hm⟩:=bd_some hm;refine CallY.det (d_bylaw_in t.On (W ((W (x.Set+v.On.Lo))-v.Fog)) (W ((W (x.Set+v.On.Hi))-v.Fog)) _ hx6) ?_;revert hm;refine VIf.b (fun h7 hm=> ?_) (fun h7 hm=> ?_);obtain⟨x8,hx9,hm⟩:=bd_some hm;refine CallY.det (d_bylaw_in t.Off (W (x.Rise-v.Off.Hi)) (W (x.Rise-v.Off.Lo)) _ hx9) ?_;cases hm;exact RetY.le (leD.refl _);cases hm;exact RetY.le (leD.refl _);cases hm;exact RetY.le (leD.refl _);revert hm;refine VIf.b (fun h10 hm=> ?_) (fun h10 hm=> ?_);obtain⟨x11,hx12,hm⟩:=bd_some hm;refine CallY.det (d_bylaw_in t.On (W ((W (x.Set+v.On.Lo))-0)) (W ((W (x.Set+v.On.Hi))-0)) _ hx12) ?_;revert hm;refine VIf.b (fun h13 hm=> ?_) (fun h13 hm=> ?_);obtain⟨x14,hx15,hm⟩:=bd_some hm;refine CallY.det (d_bylaw_in t.Off (W (x.Rise-v.Off.Hi)) (W (x.Rise-v.Off.Lo)) _ hx15) ?_;cases hm;exact RetY.le (leD.refl _);cases hm;exact RetY.le (leD.refl _);cases hm;exact RetY.le (leD.refl _);revert hm;refine VIf.b (fun h16 hm=> ?_) (fun h16 hm=> ?_);revert hm;refine VIf.b (fun h17 hm=> ?_) (fun h17 hm=> ?_);obtain⟨x18,hx19,hm⟩:=bd_some hm;refine CallY.det (d_bylaw_in t.On (W ((W (x.Set+v.On.Lo))-v.Fog)) (W ((W (x.Set+v.On.Hi))-v.Fog)) _ hx19) ?_;revert hm;refine VIf.b (fun h20 hm=> ?_) (fun h20 hm=> ?_);obtain⟨x21,hx22,hm⟩:=bd_some hm;refine CallY.det (d_bylaw_in t.Off (W (x.Rise-v.Off.Hi)) (W (x.Rise-v.Off.Lo)) _ hx22) ?_;cases hm;exact RetY.le (leD.refl _);cases hm;exact RetY.le (leD.refl _);cases hm;exact RetY.le (leD.refl _);revert hm;refine VIf.b (fun h23 hm=> ?_) (fun h23 hm=> ?_);obtain⟨x24,hx25,hm⟩:=bd_some hm;refine CallY.det (d_bylaw_in t.On (W ((W (x.Set+v.On.Lo))-0)) (W ((W (x.Set+v.On.Hi))-0)) _ hx25) ?_;revert hm;refine VIf.b (fun h26 hm=> ?_) (fun h26 hm=> ?_);obtain⟨x27,hx28,hm⟩:=bd_some hm;refine CallY.det (d_bylaw_in t.Off (W (x.Rise-v.Off.Hi)) (W (x.Rise-v.Off.Lo)) _ hx28) ?_;cases hm;exact RetY.le (leD.refl _);cases hm;exact RetY.le (leD.refl _);cases hm;exact RetY.le (leD.refl _)
def m_bylaw_Kept_L1 (t:TTimes) (x10:Twindow):Int→TTruth→Option (Sum Int Int):=fun v23 y19=>
 Option.bind (m_bylaw_lawful x10.v y19 t) fun x27=>
 if(!x27)=true then
  some (.inr 2)
 else
  some (.inl v23)
def m_bylaw_Kept (b_:TBylaw) (lamp:Int) (n:TNight) (t:TTimes) (night:Int):Option (Int×Int):=
 Option.bind (m_bylaw_Check b_) fun x1=>
 if(x1 !=0)=true then
  some (0,x1)
 else
  Option.bind (m_bylaw_CheckNight n) fun x4=>
  if(x4 !=0)=true then
   some (0,12)
  else
   Option.bind (m_bylaw_areTimes t) fun x7=>
   if(!x7)=true then
    some (0,1)
   else
    Option.bind (m_bylaw_look b_ lamp n night) fun⟨x10,x11⟩=>
    if(x11 !=0)=true then
     some (0,x11)
    else
     Option.bind (m_bylaw_window_may x10 t) fun x14=>
     if(!x14)=true then
      some (0,0)
     else
      Option.bind (m_bylaw_window_ends x10) fun x17=>
      Option.bind (it_bylaw_window_ends_1 x17) fun l30=>
      Option.bind (rangeF (m_bylaw_Kept_L1 t x10) l30.1 0) fun e=>
      match e with
      | .inl v31=>
       some (1,0)
      | .inr v32=>
       some (v32,0)
theorem d_bylaw_Kept (b_:TBylaw) (lamp:Int) (n:TNight) (t:TTimes) (night:Int) (r:(Int×Int)) (hm:m_bylaw_Kept b_ lamp n t night=some r):Does Tryz.prog 27 [.agg (TBylaw.c b_),DI lamp, .agg (TNight.c n), .agg (TTimes.c t),DI night] (fun x=>x= .tup [DI r.1,DI r.2]):=by
 refine does_zr (X:=⟨Tryz.prog,tt,Tryz.f27.ntmps, [], [], [], [], [], []⟩) pok _ Tryz.func27 rfl rfl (Nat.le_of_ble_eq_true rfl) ?_;intro ds;intro ds;obtain⟨x1,hx2,hm⟩:=bd_some hm;refine CallY.det (d_bylaw_Check b_ _ hx2) ?_;intro ds;revert hm;refine VIf.b (fun h3 hm=> ?_) (fun h3 hm=> ?_);intro ds;intro ds;cases hm;exact RetY.le (leD.refl _);intro ds;obtain⟨x4,hx5,hm⟩:=bd_some hm;refine CallY.det (d_bylaw_CheckNight n _ hx5) ?_;revert hm;refine VIf.b (fun h6 hm=> ?_) (fun h6 hm=> ?_);intro ds;intro ds;cases hm;exact RetY.le (leD.refl _);intro ds;obtain⟨x7,hx8,hm⟩:=bd_some hm;refine CallY.det (d_bylaw_areTimes t _ hx8) ?_;revert hm;refine VIf.b (fun h9 hm=> ?_) (fun h9 hm=> ?_);intro ds;intro ds;cases hm;exact RetY.le (leD.refl _);intro ds;intro ds;obtain⟨⟨x10,x11⟩,hx12,hm⟩:=bd_some hm;refine CallY.det (d_bylaw_look b_ lamp n night _ hx12) ?_;intro ds;revert hm;refine VIf.b (fun h13 hm=> ?_) (fun h13 hm=> ?_);intro ds;intro ds;cases hm;exact RetY.le (leD.refl _);intro ds;intro ds;obtain⟨x14,hx15,hm⟩:=bd_some hm;refine CallY.det (d_bylaw_window_may x10 t _ hx15) ?_;revert hm;refine VIf.b (fun h16 hm=> ?_) (fun h16 hm=> ?_);intro ds;intro ds;cases hm;exact RetY.le (leD.refl _);intro ds;intro ds;obtain⟨x17,hx18,hm⟩:=bd_some hm;refine CallY.det (d_bylaw_window_ends x10 _ hx18) ?_;obtain⟨l30,hl34,hm⟩:=bd_some hm;obtain⟨ev33,he,hm⟩:=bd_some hm;refine RangeY.ofZ (E:=Int) en_bylaw_window_ends_1 l30.1 (m_bylaw_Kept_L1 t x10) (fun(lpx:Int)=>match lpx with|v23=>(⟨[(0, .agg [lD 11 b_.Versions TVersion.c,lD 5 b_.Streets TStreet.c]),(1,DI lamp),(2, .agg [DI n.No,DI n.Set.Lo,DI n.Set.Hi,DI n.Rise.Lo,DI n.Rise.Hi,DI n.Light.Lo,DI n.Light.Hi,DI n.Fog]),(3, .agg [DI t.On,DI t.Off]),(4,DI night),(5, .own 0 0),(7, .own 1 0),(8, .own 2 0),(10, .own 3 0),(11, .own 4 0),(12,DI x11),(13, .own 5 0),(17,DB (x1 !=0)),(21,DB (x4 !=0)),(25,DB (!x7)),(38,DB (x11 !=0)),(43,DB (!x14))], [(0, .blk [lD 11 b_.Versions TVersion.c,lD 5 b_.Streets TStreet.c] 25),(1, .blk [DI n.No,DI n.Set.Lo,DI n.Set.Hi,DI n.Rise.Lo,DI n.Rise.Hi,DI n.Light.Lo,DI n.Light.Hi,DI n.Fog] 60),(2, .blk [DI t.On,DI t.Off] 68),(3, .blk [DI v23] 3),(4, .blk [DI 0] 26),(5, .blk [DI x10.v.Source,DI x10.v.Class,DI x10.v.From,DI x10.v.On.Lo,DI x10.v.On.Hi,DI x10.v.Off.Lo,DI x10.v.Off.Hi,DI x10.v.Moon,DI x10.v.Fog,DI x10.v.Known,DI x10.v.Until,DI x10.n.No,DI x10.n.Set.Lo,DI x10.n.Set.Hi,DI x10.n.Rise.Lo,DI x10.n.Rise.Hi,DI x10.n.Light.Lo,DI x10.n.Light.Hi,DI x10.n.Fog] 90)],6⟩:Sy)) (fun(lpx:Int)=>match lpx with|v23=>(⟨[(0, .agg [lD 11 b_.Versions TVersion.c,lD 5 b_.Streets TStreet.c]),(1,DI lamp),(2, .agg [DI n.No,DI n.Set.Lo,DI n.Set.Hi,DI n.Rise.Lo,DI n.Rise.Hi,DI n.Light.Lo,DI n.Light.Hi,DI n.Fog]),(3, .agg [DI t.On,DI t.Off]),(4,DI night),(5, .own 0 0),(7, .own 1 0),(8, .own 2 0),(10, .own 3 0),(11, .own 4 0),(12,DI x11),(13, .own 5 0),(17,DB (x1 !=0)),(21,DB (x4 !=0)),(25,DB (!x7)),(38,DB (x11 !=0)),(43,DB (!x14))], [(0, .blk [lD 11 b_.Versions TVersion.c,lD 5 b_.Streets TStreet.c] 25),(1, .blk [DI n.No,DI n.Set.Lo,DI n.Set.Hi,DI n.Rise.Lo,DI n.Rise.Hi,DI n.Light.Lo,DI n.Light.Hi,DI n.Fog] 60),(2, .blk [DI t.On,DI t.Off] 68),(3, .blk [DI v23] 3),(4, .blk [DI 0] 26),(5, .blk [DI x10.v.Source,DI x10.v.Class,DI x10.v.From,DI x10.v.On.Lo,DI x10.v.On.Hi,DI x10.v.Off.Lo,DI x10.v.Off.Hi,DI x10.v.Moon,DI x10.v.Fog,DI x10.v.Known,DI x10.v.Until,DI x10.n.No,DI x10.n.Set.Lo,DI x10.n.Set.Hi,DI x10.n.Rise.Lo,DI x10.n.Rise.Hi,DI x10.n.Light.Lo,DI x10.n.Light.Hi,DI x10.n.Fog] 90)],6⟩:Sy)) (fun _=> .ret) 0 ev33 [0,1,2,3,4,5,7,8,10,11,12,13,17,21,25,38,43] (i_bylaw_window_ends_1 x17 l30.1 hl34) he (enters_f pok Tryz.func83 rfl) rfl rfl (fun _=>rfl) rfl rfl rfl (by rintro v23;rfl) (by rintro v23;rfl) (SubY.of 6 rfl ⟨tR rfl,tR rfl,tR rfl,tR rfl,tR rfl,tR rfl,tR rfl,tR rfl,tR rfl,tR rfl,tR rfl,tR rfl,tR rfl,tR rfl,tR rfl,tR rfl,tR rfl,trivial⟩ ⟨hR rfl,hR rfl,hR rfl,hR rfl,hR rfl,hR rfl,trivial⟩) ?_ ?_ (fun _=> .inl rfl) ?_
 rintro v31 rfl;intro ds;intro ds;cases hm;exact RetY.le (leD.refl _);rintro v32 rfl;cases hm;exact RetY.le (leD.refl _);clear he hm;rintro v23 y19 b hm;obtain⟨x35,hx36,hm⟩:=bd_some hm;refine CallY.det (d_bylaw_lawful x10.v y19 t _ hx36) ?_;revert hm;refine VIf.b (fun h37 hm=> ?_) (fun h37 hm=> ?_);cases hm;exact⟨2,rfl,rfl,SubY.of 6 rfl ⟨tR rfl,tR rfl,tR rfl,tR rfl,tR rfl,tR rfl,tR rfl,tR rfl,tR rfl,tR rfl,tR rfl,tR rfl,tR rfl,tR rfl,tR rfl,tR rfl,tR rfl,trivial⟩ ⟨hR rfl,hR rfl,hR rfl,hR rfl,hR rfl,hR rfl,trivial⟩⟩;cases hm;exact⟨v23,rfl,SubY.of 6 rfl ⟨tR rfl,tR rfl,tR rfl,tR rfl,tR rfl,tR rfl,tR rfl,tR rfl,tR rfl,tR rfl,tR rfl,tR rfl,tR rfl,tR rfl,tR rfl,tR rfl,tR rfl,trivial⟩ ⟨hR rfl,hR rfl,hR rfl,hR rfl,hR rfl,hR rfl,trivial⟩⟩
def m_bylaw_lamps (b_:TBylaw) (district:Int):Option (TBylaw×Int):=
 some (b_,district)
theorem d_bylaw_lamps (b_:TBylaw) (district:Int) (r:(TBylaw×Int)) (hm:m_bylaw_lamps b_ district=some r):Does Tryz.prog 62 [.agg (TBylaw.c b_),DI district] (fun x=>x= .fn 85 [] [.ptr [lD 11 r.1.Versions TVersion.c,lD 5 r.1.Streets TStreet.c] 0, .ptr [DI r.2] 0]):=by
 refine does_zy (X:=⟨Tryz.prog,tt,Tryz.f62.ntmps, [], [], [], [], [], []⟩) pok _ Tryz.func62 rfl rfl (Nat.le_of_ble_eq_true rfl) ?_;cases hm;exact RetY.le (leD.refl _)
def en_bylaw_lamps_1 (x:Int):List D:= [DI x]
def it_bylaw_lamps_1_L1 (c_0:TBylaw) (c_1:Int):Int→Option (List Int×Sum Int Int):=fun lamp9=>
 if(decide (lamp9≤999))=true then
  Option.bind (m_bylaw_streetOf c_0 lamp9) fun⟨x20,x21⟩=>
  if(x21==0)=true then
   if(c_1==0)=true then
    emit lamp9<|
    some ([], .inl (W (lamp9+1)))
   else
    if(x20.District==c_1)=true then
     emit lamp9<|
     some ([], .inl (W (lamp9+1)))
    else
     some ([], .inl (W (lamp9+1)))
  else
   some ([], .inl (W (lamp9+1)))
 else
  some ([], .inr lamp9)
def it_bylaw_lamps_1 (c_0:TBylaw) (c_1:Int):Option (List Int×Unit):=
 bindI (loopIF (it_bylaw_lamps_1_L1 c_0 c_1) 1) fun lamp28=>
 some ([],())
theorem i_bylaw_lamps_1 (c_0:TBylaw) (c_1:Int) (xs:List Int) (hm:it_bylaw_lamps_1 c_0 c_1=some (xs,())):DoesIt Tryz.prog 85 [.ptr [lD 11 c_0.Versions TVersion.c,lD 5 c_0.Streets TStreet.c] 0, .ptr [DI c_1] 0] (xs.map en_bylaw_lamps_1):=by
 refine does_zit (X:=⟨Tryz.prog,tt,Tryz.f85.ntmps, [], [], [], [], [], []⟩) pok _ _ [] Tryz.func85 rfl rfl (Nat.le_of_ble_eq_true rfl) rfl ?_;intro l;obtain⟨r,hr⟩:∃r:List Int×Unit,r=(xs,()):=⟨_,rfl⟩;rw [←hr]at hm;have hp:Hp3 en_bylaw_lamps_1 [] r.1 [] (xs.map en_bylaw_lamps_1):=⟨by rw [hr];simp⟩;clear hr;obtain⟨ev29,rr33,he,hk30,hb1,hb2⟩:=bindI_some hm;replace hp:=hp.in1 hb1;clear hb1 hb2;refine LoopI.of (fun(lpx:Nat×Int)=>match lpx with|(fu31,lamp9)=>(⟨[(0, .v (.func (.yield l) #[] #[])),(1, .ptr [lD 11 c_0.Versions TVersion.c,lD 5 c_0.Streets TStreet.c] 0),(2, .ptr [DI c_1] 0),(4,DI lamp9)], [],0⟩:Sy)) (fun lpx q=>∃e,loopIO (it_bylaw_lamps_1_L1 c_0 c_1) lpx.1 lpx.2=some e∧Hp3 en_bylaw_lamps_1 q e.1 _ _∧e.2=ev29.2) (fun lpx=>lpx.1) (FUEL,1) ⟨_,he,hp,rfl⟩ (SubY.of 0 rfl ⟨tR rfl,tR rfl,tR rfl,tR rfl,trivial⟩ trivial) ?_
 clear hp he;rintro⟨fu31,lamp9⟩ q ⟨el35,hi32,hp,hx36⟩;obtain⟨fu31,b,tl,rfl,hm,hb1,hi32⟩:=loopI_step hi32;replace hp:=hp.in1 hb1;clear hb1;have hq:b.2=b.2:=rfl;revert hm;refine VIf.b (fun h38 hm=> ?_) (fun h38 hm=> ?_);obtain⟨⟨x39,x40⟩,hx41,hm⟩:=bd_some hm;refine CallY.det (d_bylaw_streetOf c_0 lamp9 _ hx41) ?_;revert hm;refine VIf.b (fun h42 hm=> ?_) (fun h42 hm=> ?_);revert hm;refine VIf.b (fun h43 hm=> ?_) (fun h43 hm=> ?_);obtain⟨rb44,hm,hb1,hb2⟩:=emit_some hm;refine YieldY.of (x':=en_bylaw_lamps_1 lamp9) rfl rfl (RetY.le (leD.refl _)) (hp.pre hb1) ?_ ?_;replace hp:=hp.emit hb1;replace hq:=hq.trans hb2;cases hm;rw [hq]at hi32;obtain⟨e2,hm,rfl,ht⟩:=hi32;exact⟨(fu31,(W (lamp9+1))),_,SubY.of 0 rfl ⟨tR rfl,tR rfl,tR rfl,tR rfl,trivial⟩ trivial,rfl,⟨_,hm,hp.out rfl,ht.symm.trans hx36⟩,Nat.lt_succ_self _⟩;exact .inl rfl;revert hm;refine VIf.b (fun h45 hm=> ?_) (fun h45 hm=> ?_);obtain⟨rb46,hm,hb1,hb2⟩:=emit_some hm;refine YieldY.of (x':=en_bylaw_lamps_1 lamp9) rfl rfl (RetY.le (leD.refl _)) (hp.pre hb1) ?_ ?_;replace hp:=hp.emit hb1;replace hq:=hq.trans hb2;cases hm;rw [hq]at hi32;obtain⟨e2,hm,rfl,ht⟩:=hi32;exact⟨(fu31,(W (lamp9+1))),_,SubY.of 0 rfl ⟨tR rfl,tR rfl,tR rfl,tR rfl,trivial⟩ trivial,rfl,⟨_,hm,hp.out rfl,ht.symm.trans hx36⟩,Nat.lt_succ_self _⟩;exact .inl rfl;cases hm;rw [hq]at hi32;obtain⟨e2,hm,rfl,ht⟩:=hi32;exact⟨(fu31,(W (lamp9+1))),_,SubY.of 0 rfl ⟨tR rfl,tR rfl,tR rfl,tR rfl,trivial⟩ trivial,rfl,⟨_,hm,hp.out rfl,ht.symm.trans hx36⟩,Nat.lt_succ_self _⟩;cases hm;rw [hq]at hi32;obtain⟨e2,hm,rfl,ht⟩:=hi32;exact⟨(fu31,(W (lamp9+1))),_,SubY.of 0 rfl ⟨tR rfl,tR rfl,tR rfl,tR rfl,trivial⟩ trivial,rfl,⟨_,hm,hp.out rfl,ht.symm.trans hx36⟩,Nat.lt_succ_self _⟩;cases hm;rw [hq]at hi32;obtain⟨rfl,ht⟩:=hi32;replace hp:=(hp.out (l':= []) rfl).out rfl;have hm:=hk30
 try rw [←hx36,ht]at hm
 clear hq;cases hm;exact .inr (congrArg some (hp.done rfl))
def m_slices_AppendSeq_int_int__nil__bylaw_lamps_1_L1:(List Int)→Int→Option (Sum (List Int) Unit):=fun v2 y1=>
 gd ((v2.length+([y1]:List Int).length)*8≤140737488355328∧v2.length+([y1]:List Int).length≤9223372036854775807)<|
 some (.inl (v2++([y1]:List Int)))
def m_slices_AppendSeq_int_int__nil__bylaw_lamps_1 (c1_0:TBylaw) (c1_1:Int):Option (List Int):=
 Option.bind (it_bylaw_lamps_1 c1_0 c1_1) fun l3=>
 Option.bind (rangeF m_slices_AppendSeq_int_int__nil__bylaw_lamps_1_L1 l3.1 []) fun e=>
 match e with
 | .inl v4=>
  some v4
 | .inr _=>none
theorem d_slices_AppendSeq_int_int__nil__bylaw_lamps_1 (c1_0:TBylaw) (c1_1:Int) (r:(List Int)) (hm:m_slices_AppendSeq_int_int__nil__bylaw_lamps_1 c1_0 c1_1=some r):Does Tryz.prog 84 [.v (.slice none 0 0), .fn 85 [] [.ptr [lD 11 c1_0.Versions TVersion.c,lD 5 c1_0.Streets TStreet.c] 0, .ptr [DI c1_1] 0]] (fun x=>x=lD 1 r cI):=by
 refine does_zr (X:=⟨Tryz.prog,tt,Tryz.f84.ntmps, [], [], [], [], [], []⟩) pok _ Tryz.func84 rfl rfl (Nat.le_of_ble_eq_true rfl) ?_;intro ds;intro ds;obtain⟨l3,hl6,hm⟩:=bd_some hm;obtain⟨ev5,he,hm⟩:=bd_some hm;refine RangeY.ofZ (E:=Unit) en_bylaw_lamps_1 l3.1 m_slices_AppendSeq_int_int__nil__bylaw_lamps_1_L1 (fun(lpx:(List Int))=>match lpx with|v2=>(⟨[(0, .v (.slice none 0 0)),(1, .fn 85 [] [.ptr [lD 11 c1_0.Versions TVersion.c,lD 5 c1_0.Streets TStreet.c] 0, .ptr [DI c1_1] 0]),(2, .own 0 0),(4, .v (.slice none 0 0))], [(0, .blk [.row 1 1] 52),(1,rE 1 v2 cI 3)],2⟩:Sy)) (fun(_:Unit)=>(⟨[], [],0⟩:Sy)) (fun _=> .ret) [] ev5 [0,1,2,4] (i_bylaw_lamps_1 c1_0 c1_1 l3.1 hl6) he (enters_f pok Tryz.func85 rfl) rfl rfl (fun _=>rfl) rfl rfl rfl (by rintro v2;rfl) (by intro _;rfl) (SubY.of 1 rfl ⟨tR rfl,tR rfl,tR rfl,tR rfl,trivial⟩ ⟨hR rfl,⟨rfl,rfl⟩,trivial⟩) ?_ ?_ (fun _=> .inl rfl) ?_
 rintro v4 rfl;intro ds;intro ds;cases hm;exact RetY.le (leD.refl _);rintro _ rfl;cases hm;clear he hm;rintro v2 y1 b hm;refine⟨([y1]:List Int).flatMap cI,([y1]:List Int).length,⟨rfl,rfl⟩, ?_⟩;obtain⟨hg,hm⟩:=gd_some hm;refine⟨hg,_,_,flat_app (c:=cI) (l:=(v2:List Int)) (r:=(([y1]:List Int):List Int)), ?_⟩;cases hm;exact⟨(v2++([y1]:List Int)),rfl,SubY.of 2 rfl ⟨tR rfl,tR rfl,tR rfl,tR rfl,trivial⟩ ⟨hR rfl,hW rfl,trivial⟩⟩
def m_slices_Collect_int__bylaw_lamps_1 (c0_0:TBylaw) (c0_1:Int):Option (List Int):=
 Option.bind (m_slices_AppendSeq_int_int__nil__bylaw_lamps_1 c0_0 c0_1) fun x1=>
 some x1
theorem d_slices_Collect_int__bylaw_lamps_1 (c0_0:TBylaw) (c0_1:Int) (r:(List Int)) (hm:m_slices_Collect_int__bylaw_lamps_1 c0_0 c0_1=some r):Does Tryz.prog 61 [.fn 85 [] [.ptr [lD 11 c0_0.Versions TVersion.c,lD 5 c0_0.Streets TStreet.c] 0, .ptr [DI c0_1] 0]] (fun x=>x=lD 1 r cI):=by
 refine does_zy (X:=⟨Tryz.prog,tt,Tryz.f61.ntmps, [], [], [], [], [], []⟩) pok _ Tryz.func61 rfl rfl (Nat.le_of_ble_eq_true rfl) ?_;obtain⟨x1,hx2,hm⟩:=bd_some hm;refine CallY.det (d_slices_AppendSeq_int_int__nil__bylaw_lamps_1 c0_0 c0_1 _ hx2) ?_;cases hm;exact RetY.le (leD.refl _)
def m_bylaw_District (b_:TBylaw) (district:Int):Option ((List Int)×Int):=
 Option.bind (m_bylaw_Check b_) fun x1=>
 if(x1 !=0)=true then
  some ([],x1)
 else
  Option.bind (m_bylaw_in district 1 9) fun x4=>
  if(!x4)=true then
   some ([],1)
  else
   Option.bind (m_bylaw_lamps b_ district) fun⟨x7,x8⟩=>
   Option.bind (m_slices_Collect_int__bylaw_lamps_1 x7 x8) fun x10=>
   some (x10,0)
theorem d_bylaw_District (b_:TBylaw) (district:Int) (r:((List Int)×Int)) (hm:m_bylaw_District b_ district=some r):Does Tryz.prog 28 [.agg (TBylaw.c b_),DI district] (fun x=>x= .tup [lD 1 r.1 cI,DI r.2]):=by
 refine does_zy (X:=⟨Tryz.prog,tt,Tryz.f28.ntmps, [], [], [], [], [], []⟩) pok _ Tryz.func28 rfl rfl (Nat.le_of_ble_eq_true rfl) ?_;obtain⟨x1,hx2,hm⟩:=bd_some hm;refine CallY.det (d_bylaw_Check b_ _ hx2) ?_;revert hm;refine VIf.b (fun h3 hm=> ?_) (fun h3 hm=> ?_);cases hm;exact RetY.le (le2);obtain⟨x4,hx5,hm⟩:=bd_some hm;refine CallY.det (d_bylaw_in district 1 9 _ hx5) ?_;revert hm;refine VIf.b (fun h6 hm=> ?_) (fun h6 hm=> ?_);cases hm;exact RetY.le (le2);obtain⟨⟨x7,x8⟩,hx9,hm⟩:=bd_some hm;refine CallY.det (d_bylaw_lamps b_ district _ hx9) ?_;obtain⟨x10,hx11,hm⟩:=bd_some hm;refine CallY.det (d_slices_Collect_int__bylaw_lamps_1 x7 x8 _ hx11) ?_;cases hm;exact RetY.le (leD.refl _)
def m_bylaw_ask_L1 (nights:(List Int)):Int→Option (Sum Int (Sum Int Int)):=fun v13=>
 if(decide (v13<(nights.length:Int)))=true then
  Option.bind (idx nights v13) fun e21=>
  Option.bind (m_bylaw_isNight e21) fun x23=>
  if(!x23)=true then
   some (.inr (.inr 6))
  else
   some (.inl (W (v13+1)))
 else
  some (.inr (.inl v13))
def m_bylaw_ask (b_:TBylaw) (n:TNight) (nights:(List Int)):Option Int:=
 Option.bind (m_bylaw_Check b_) fun x1=>
 if(x1 !=0)=true then
  some x1
 else
  Option.bind (m_bylaw_CheckNight n) fun x4=>
  if(x4 !=0)=true then
   some x4
  else
   Option.bind (loopF (m_bylaw_ask_L1 nights) 0) fun e=>
   match e with
   | .inl v26=>
    some 0
   | .inr rr27=>
    some rr27
theorem d_bylaw_ask (b_:TBylaw) (n:TNight) (nights:(List Int)) (r:Int) (hm:m_bylaw_ask b_ n nights=some r):Does Tryz.prog 63 [.agg (TBylaw.c b_), .agg (TNight.c n),lD 1 nights cI] (fun x=>x=DI r):=by
 refine does_zy (X:=⟨Tryz.prog,tt,Tryz.f63.ntmps, [], [], [], [], [], []⟩) pok _ Tryz.func63 rfl rfl (Nat.le_of_ble_eq_true rfl) ?_;obtain⟨x1,hx2,hm⟩:=bd_some hm;refine CallY.det (d_bylaw_Check b_ _ hx2) ?_;revert hm;refine VIf.b (fun h3 hm=> ?_) (fun h3 hm=> ?_);cases hm;exact RetY.le (leD.refl _);obtain⟨x4,hx5,hm⟩:=bd_some hm;refine CallY.det (d_bylaw_CheckNight n _ hx5) ?_;revert hm;refine VIf.b (fun h6 hm=> ?_) (fun h6 hm=> ?_);cases hm;exact RetY.le (leD.refl _);obtain⟨ev28,he,hk29⟩:=bd_some hm;refine LoopY.ofL (m_bylaw_ask_L1 nights) (fun v13=>⟨[(21,lD 1 nights cI),(22,DI (nights.length:Int)),(23,DI v13)], [],2⟩) 0 (SubY.of 2 rfl ⟨tR rfl,tR rfl,tR rfl,trivial⟩ trivial) he ?_;rintro fu30 v13 b hm hi31;revert hm;refine VIf.b (fun h32 hm=> ?_) (fun h32 hm=> ?_);obtain⟨e33,hx34,hm⟩:=bd_some hm;refine⟨_,el_idx (fun _=>rfl) hx34, ?_⟩;obtain⟨x35,hx36,hm⟩:=bd_some hm;refine CallY.det (d_bylaw_isNight e33 _ hx36) ?_;revert hm;refine VIf.b (fun h37 hm=> ?_) (fun h37 hm=> ?_);cases hm;cases hi31;have hm:=hk29;cases hm;exact RetY.le (leD.refl _);cases hm;exact⟨(_,(W (v13+1))),SubY.of 2 rfl ⟨tR rfl,tR rfl,tR rfl,trivial⟩ trivial,hi31,Nat.lt_succ_self _⟩;cases hm;cases hi31;have hm:=hk29;cases hm;exact RetY.le (leD.refl _)
def m_cmp_isNaN_int (x:Int):Option Bool:=
 some (x !=x)
theorem d_cmp_isNaN_int (x:Int) (r:Bool) (hm:m_cmp_isNaN_int x=some r):Does Tryz.prog 104 [DI x] (fun x=>x=DB r):=by
 refine does_zy (X:=⟨Tryz.prog,tt,Tryz.f104.ntmps, [], [], [], [], [], []⟩) pok _ Tryz.func104 rfl rfl (Nat.le_of_ble_eq_true rfl) ?_;cases hm;exact RetY.le (leD.refl _)
def m_cmp_Compare_int (x:Int) (y:Int):Option Int:=
 Option.bind (m_cmp_isNaN_int x) fun x1=>
 Option.bind (m_cmp_isNaN_int y) fun x3=>
 if x1=true then
  if x3=true then
   some 0
  else
   some (-1)
 else
  if x3=true then
   some 1
  else
   if(decide (x<y))=true then
    some (-1)
   else
    if(decide (x>y))=true then
     some 1
    else
     some 0
theorem d_cmp_Compare_int (x:Int) (y:Int) (r:Int) (hm:m_cmp_Compare_int x y=some r):Does Tryz.prog 89 [DI x,DI y] (fun x=>x=DI r):=by
 refine does_zy (X:=⟨Tryz.prog,tt,Tryz.f89.ntmps, [], [], [], [], [], []⟩) pok _ Tryz.func89 rfl rfl (Nat.le_of_ble_eq_true rfl) ?_;obtain⟨x1,hx2,hm⟩:=bd_some hm;refine CallY.det (d_cmp_isNaN_int x _ hx2) ?_;obtain⟨x3,hx4,hm⟩:=bd_some hm;refine CallY.det (d_cmp_isNaN_int y _ hx4) ?_;revert hm;refine VIf.b (fun h5 hm=> ?_) (fun h5 hm=> ?_);revert hm;refine VIf.b (fun h6 hm=> ?_) (fun h6 hm=> ?_);cases hm;exact RetY.le (leD.refl _);cases hm;exact RetY.le (leD.refl _);revert hm;refine VIf.b (fun h7 hm=> ?_) (fun h7 hm=> ?_);cases hm;exact RetY.le (leD.refl _);revert hm;refine VIf.b (fun h8 hm=> ?_) (fun h8 hm=> ?_);cases hm;exact RetY.le (leD.refl _);revert hm;refine VIf.b (fun h9 hm=> ?_) (fun h9 hm=> ?_);cases hm;exact RetY.le (leD.refl _);cases hm;exact RetY.le (leD.refl _)
def m_slices_Clone_api_Version_api_Version (s:List TVersion):Option (List TVersion):=gd (s.length*88≤140737488355328∧s.length≤9223372036854775807) (some s)
theorem d_slices_Clone_api_Version_api_Version (s:List TVersion) (r:List TVersion) (hm:m_slices_Clone_api_Version_api_Version s=some r):Does Tryz.prog 90 [.lst 11 s.length (s.flatMap TVersion.c)] (fun x=>x= .lst 11 r.length (r.flatMap TVersion.c)):=by
 obtain⟨hg,hm⟩:=gd_some hm;cases hm;refine does_zy (X:=⟨Tryz.prog,tt,Tryz.f90.ntmps, [], [], [], [], [], []⟩) pok _ Tryz.func90 rfl rfl (Nat.le_of_ble_eq_true rfl) ?_;intro b hb;refine VIf.mk (fun h=> ?_) (fun h=> ?_)
 · have h0:=hb h;have h1:s= []:=List.eq_nil_of_length_eq_zero h0;subst h1;exact RetY.le leD.nil
 · refine⟨[],0,⟨rfl,rfl⟩, ?_⟩;exact⟨by omega,s.flatMap TVersion.c,s.length,⟨rfl,Nat.zero_add _⟩,RetY.le (leD.refl _)⟩
theorem u_slices_Clone_api_Version_api_Version (s:List TVersion) (r:List TVersion) (hm:m_slices_Clone_api_Version_api_Version s=some r):DoesU Tryz.prog 90 [.lst 11 s.length (s.flatMap TVersion.c)] 11 r.length (r.flatMap TVersion.c) 42:=by
 obtain⟨hg,hm⟩:=gd_some hm;cases hm;refine does_zu (X:=⟨Tryz.prog,tt,Tryz.f90.ntmps, [], [], [], [], [], []⟩) pok _ Tryz.func90 rfl rfl (Nat.le_of_ble_eq_true rfl) ?_;intro b hb;refine VIf.mk (fun h=> ?_) (fun h=> ?_)
 · have h0:=hb h;have h1:s= []:=List.eq_nil_of_length_eq_zero h0;subst h1;exact⟨rfl,rfl⟩
 · refine⟨[],0,⟨rfl,rfl⟩, ?_⟩;exact⟨by omega,s.flatMap TVersion.c,s.length,⟨rfl,Nat.zero_add _⟩,⟨rfl,rfl⟩⟩
def m_slices_Clone_api_Street_api_Street (s:List TStreet):Option (List TStreet):=gd (s.length*40≤140737488355328∧s.length≤9223372036854775807) (some s)
theorem d_slices_Clone_api_Street_api_Street (s:List TStreet) (r:List TStreet) (hm:m_slices_Clone_api_Street_api_Street s=some r):Does Tryz.prog 91 [.lst 5 s.length (s.flatMap TStreet.c)] (fun x=>x= .lst 5 r.length (r.flatMap TStreet.c)):=by
 obtain⟨hg,hm⟩:=gd_some hm;cases hm;refine does_zy (X:=⟨Tryz.prog,tt,Tryz.f91.ntmps, [], [], [], [], [], []⟩) pok _ Tryz.func91 rfl rfl (Nat.le_of_ble_eq_true rfl) ?_;intro b hb;refine VIf.mk (fun h=> ?_) (fun h=> ?_)
 · have h0:=hb h;have h1:s= []:=List.eq_nil_of_length_eq_zero h0;subst h1;exact RetY.le leD.nil
 · refine⟨[],0,⟨rfl,rfl⟩, ?_⟩;exact⟨by omega,s.flatMap TStreet.c,s.length,⟨rfl,Nat.zero_add _⟩,RetY.le (leD.refl _)⟩
theorem u_slices_Clone_api_Street_api_Street (s:List TStreet) (r:List TStreet) (hm:m_slices_Clone_api_Street_api_Street s=some r):DoesU Tryz.prog 91 [.lst 5 s.length (s.flatMap TStreet.c)] 5 r.length (r.flatMap TStreet.c) 49:=by
 obtain⟨hg,hm⟩:=gd_some hm;cases hm;refine does_zu (X:=⟨Tryz.prog,tt,Tryz.f91.ntmps, [], [], [], [], [], []⟩) pok _ Tryz.func91 rfl rfl (Nat.le_of_ble_eq_true rfl) ?_;intro b hb;refine VIf.mk (fun h=> ?_) (fun h=> ?_)
 · have h0:=hb h;have h1:s= []:=List.eq_nil_of_length_eq_zero h0;subst h1;exact⟨rfl,rfl⟩
 · refine⟨[],0,⟨rfl,rfl⟩, ?_⟩;exact⟨by omega,s.flatMap TStreet.c,s.length,⟨rfl,Nat.zero_add _⟩,⟨rfl,rfl⟩⟩
def m_bylaw_dutyOf (b_:TBylaw) (lamp:Int) (n:TNight) (night:Int):Option (TDuty×Int):=
 Option.bind (m_bylaw_known b_ lamp n night) fun⟨x1,x2⟩=>
 if(x2 !=0)=true then
  some ((⟨0,(⟨0,0⟩:TRange),(⟨0,0⟩:TRange)⟩:TDuty),x2)
 else
  Option.bind (m_bylaw_window_duty x1) fun⟨x5,x6⟩=>
  some (x5,x6)
theorem d_bylaw_dutyOf (b_:TBylaw) (lamp:Int) (n:TNight) (night:Int) (r:(TDuty×Int)) (hm:m_bylaw_dutyOf b_ lamp n night=some r):Does Tryz.prog 93 [.agg (TBylaw.c b_),DI lamp, .agg (TNight.c n),DI night] (fun x=>x= .tup [.agg (TDuty.c r.1),DI r.2]):=by
 refine does_zy (X:=⟨Tryz.prog,tt,Tryz.f93.ntmps, [], [], [], [], [], []⟩) pok _ Tryz.func93 rfl rfl (Nat.le_of_ble_eq_true rfl) ?_;obtain⟨⟨x1,x2⟩,hx3,hm⟩:=bd_some hm;refine CallY.det (d_bylaw_known b_ lamp n night _ hx3) ?_;revert hm;refine VIf.b (fun h4 hm=> ?_) (fun h4 hm=> ?_);cases hm;exact RetY.le (leD.refl _);obtain⟨⟨x5,x6⟩,hx7,hm⟩:=bd_some hm;refine CallY.det (d_bylaw_window_duty x1 _ hx7) ?_;cases hm;exact RetY.le (leD.refl _)
def m_bylaw_tells (b_:TBylaw) (n:TNight) (night:Int):Option (TBylaw×TNight×Int):=
 some (b_,n,night)
theorem d_bylaw_tells (b_:TBylaw) (n:TNight) (night:Int) (r:(TBylaw×TNight×Int)) (hm:m_bylaw_tells b_ n night=some r):Does Tryz.prog 67 [.agg (TBylaw.c b_), .agg (TNight.c n),DI night] (fun x=>x= .fn 92 [] [.ptr [lD 11 r.1.Versions TVersion.c,lD 5 r.1.Streets TStreet.c] 0, .ptr [DI r.2.1.No,DI r.2.1.Set.Lo,DI r.2.1.Set.Hi,DI r.2.1.Rise.Lo,DI r.2.1.Rise.Hi,DI r.2.1.Light.Lo,DI r.2.1.Light.Hi,DI r.2.1.Fog] 0, .ptr [DI r.2.2] 0]):=by
 refine does_zy (X:=⟨Tryz.prog,tt,Tryz.f67.ntmps, [], [], [], [], [], []⟩) pok _ Tryz.func67 rfl rfl (Nat.le_of_ble_eq_true rfl) ?_;cases hm;exact RetY.le (leD.refl _)
def m_bylaw_search_api_Version_1__bylaw_sourceOf (x:TVersion) (n:Int):Option Int:=
 Option.bind (m_bylaw_sourceOf x) fun x1=>
 Option.bind (m_cmp_Compare_int x1 n) fun x3=>
 some x3
theorem d_bylaw_search_api_Version_1__bylaw_sourceOf (x:TVersion) (n:Int) (r:Int) (hm:m_bylaw_search_api_Version_1__bylaw_sourceOf x n=some r):Does Tryz.prog 88 [.agg (TVersion.c x),DI n, .ptr [.fn 33 [] []] 0] (fun x=>x=DI r):=by
 refine does_zy (X:=⟨Tryz.prog,tt,Tryz.f88.ntmps, [], [], [], [], [], []⟩) pok _ Tryz.func88 rfl rfl (Nat.le_of_ble_eq_true rfl) ?_;obtain⟨x1,hx2,hm⟩:=bd_some hm;refine CallY.det (d_bylaw_sourceOf x _ hx2) ?_;obtain⟨x3,hx4,hm⟩:=bd_some hm;refine CallY.det (d_cmp_Compare_int x1 n _ hx4) ?_;cases hm;exact RetY.le (leD.refl _)
def m_slices_BinarySearchFunc_api_Version_api_Version_int__bylaw_search_api_Version_1_of_bylaw_sourceOf_L1 (x:(List TVersion)) (target:Int):(Int×Int)→Option (Sum (Int×Int) (Int×Int)):=fun(i7,j8)=>
 if(decide (i7<j8))=true then
  Option.bind (idx x (W ((IntKind.u64.wrap (W (i7+j8))).fdiv (2^(min (1:Int).toNat IntKind.u64.bits))))) fun e16=>
  Option.bind (m_bylaw_search_api_Version_1__bylaw_sourceOf e16 target) fun x18=>
  if(decide (x18<0))=true then
   some (.inl ((W ((W ((IntKind.u64.wrap (W (i7+j8))).fdiv (2^(min (1:Int).toNat IntKind.u64.bits))))+1)),j8))
  else
   some (.inl (i7,(W ((IntKind.u64.wrap (W (i7+j8))).fdiv (2^(min (1:Int).toNat IntKind.u64.bits))))))
 else
  some (.inr (i7,j8))
def m_slices_BinarySearchFunc_api_Version_api_Version_int__bylaw_search_api_Version_1_of_bylaw_sourceOf (x:(List TVersion)) (target:Int):Option (Int×Bool):=
 Option.bind (loopF (m_slices_BinarySearchFunc_api_Version_api_Version_int__bylaw_search_api_Version_1_of_bylaw_sourceOf_L1 x target) (0,(x.length:Int))) fun(i21,j22)=>
 if(decide (i21<(x.length:Int)))=true then
  Option.bind (idx x i21) fun e24=>
  Option.bind (m_bylaw_search_api_Version_1__bylaw_sourceOf e24 target) fun x26=>
  some (i21,(x26==0))
 else
  some (i21,false)
theorem d_slices_BinarySearchFunc_api_Version_api_Version_int__bylaw_search_api_Version_1_of_bylaw_sourceOf (x:(List TVersion)) (target:Int) (r:(Int×Bool)) (hm:m_slices_BinarySearchFunc_api_Version_api_Version_int__bylaw_search_api_Version_1_of_bylaw_sourceOf x target=some r):Does Tryz.prog 87 [lD 11 x TVersion.c,DI target, .fn 88 [] [.ptr [.fn 33 [] []] 0]] (fun x=>x= .tup [DI r.1,DB r.2]):=by
 refine does_zy (X:=⟨Tryz.prog,tt,Tryz.f87.ntmps, [], [], [], [], [], []⟩) pok _ Tryz.func87 rfl rfl (Nat.le_of_ble_eq_true rfl) ?_;obtain⟨ev28,he,hk29⟩:=bd_some hm;refine LoopY.ofL (m_slices_BinarySearchFunc_api_Version_api_Version_int__bylaw_search_api_Version_1_of_bylaw_sourceOf_L1 x target) (fun(i7,j8)=>⟨[(0,lD 11 x TVersion.c),(1,DI target),(2, .fn 88 [] [.ptr [.fn 33 [] []] 0]),(8,DI (x.length:Int)),(9,DI i7),(10,DI j8)], [],0⟩) (0,(x.length:Int)) (SubY.of 0 rfl ⟨tR rfl,tR rfl,tR rfl,tR rfl,tR rfl,tR rfl,trivial⟩ trivial) he ?_;rintro fu30 ⟨i7,j8⟩ b hm hi31;revert hm;refine VIf.b (fun h32 hm=> ?_) (fun h32 hm=> ?_);refine⟨by decide, ?_⟩;obtain⟨e33,hx34,hm⟩:=bd_some hm;refine⟨_,el_idx (fun _=>rfl) hx34, ?_⟩;obtain⟨x35,hx36,hm⟩:=bd_some hm;refine CallY.det (d_bylaw_search_api_Version_1__bylaw_sourceOf e33 target _ hx36) ?_;revert hm;refine VIf.b (fun h37 hm=> ?_) (fun h37 hm=> ?_);cases hm;exact⟨(_,((W ((W ((IntKind.u64.wrap (W (i7+j8))).fdiv (2^(min (1:Int).toNat IntKind.u64.bits))))+1)),j8)),SubY.of 0 rfl ⟨tR rfl,tR rfl,tR rfl,tR rfl,tR rfl,tR rfl,trivial⟩ trivial,hi31,Nat.lt_succ_self _⟩;cases hm;exact⟨(_,(i7,(W ((IntKind.u64.wrap (W (i7+j8))).fdiv (2^(min (1:Int).toNat IntKind.u64.bits)))))),SubY.of 0 rfl ⟨tR rfl,tR rfl,tR rfl,tR rfl,tR rfl,tR rfl,trivial⟩ trivial,hi31,Nat.lt_succ_self _⟩;cases hm;cases hi31;have hm:=hk29;revert hm;refine VIf.b (fun h38 hm=> ?_) (fun h38 hm=> ?_);obtain⟨e39,hx40,hm⟩:=bd_some hm;refine⟨_,el_idx (fun _=>rfl) hx40, ?_⟩;obtain⟨x41,hx42,hm⟩:=bd_some hm;refine CallY.det (d_bylaw_search_api_Version_1__bylaw_sourceOf e39 target _ hx42) ?_;cases hm;exact RetY.le (leD.refl _);cases hm;exact RetY.le (leD.refl _)
def m_bylaw_search_api_Version__bylaw_sourceOf (l:(List TVersion)) (n:Int):Option (Int×Bool):=
 Option.bind (m_slices_BinarySearchFunc_api_Version_api_Version_int__bylaw_search_api_Version_1_of_bylaw_sourceOf l n) fun⟨x1,x2⟩=>
 some (x1,x2)
theorem d_bylaw_search_api_Version__bylaw_sourceOf (l:(List TVersion)) (n:Int) (r:(Int×Bool)) (hm:m_bylaw_search_api_Version__bylaw_sourceOf l n=some r):Does Tryz.prog 64 [lD 11 l TVersion.c,DI n, .fn 33 [] []] (fun x=>x= .tup [DI r.1,DB r.2]):=by
 refine does_zy (X:=⟨Tryz.prog,tt,Tryz.f64.ntmps, [], [], [], [], [], []⟩) pok _ Tryz.func64 rfl rfl (Nat.le_of_ble_eq_true rfl) ?_;obtain⟨⟨x1,x2⟩,hx3,hm⟩:=bd_some hm;refine CallOwn.det (d_slices_BinarySearchFunc_api_Version_api_Version_int__bylaw_search_api_Version_1_of_bylaw_sourceOf l n _ hx3) ?_;cases hm;exact RetY.le (leD.refl _)
def m_IN_bylaw_copied (b_:TBylaw):Option ((List TVersion)×(List TStreet)):=
 Option.bind (m_slices_Clone_api_Version_api_Version b_.Versions) fun x14=>
 Option.bind (m_slices_Clone_api_Street_api_Street b_.Streets) fun x16=>
 some (x14,x16)
def m_bylaw_tells_1 (lamp:Int) (c_0:TBylaw) (c_1:TNight) (c_2:Int):Option Ttold:=
 Option.bind (m_bylaw_dutyOf c_0 lamp c_1 c_2) fun⟨x1,x2⟩=>
 some (⟨x1,x2⟩:Ttold)
theorem d_bylaw_tells_1 (lamp:Int) (c_0:TBylaw) (c_1:TNight) (c_2:Int) (r:Ttold) (hm:m_bylaw_tells_1 lamp c_0 c_1 c_2=some r):Does Tryz.prog 92 [DI lamp, .ptr [lD 11 c_0.Versions TVersion.c,lD 5 c_0.Streets TStreet.c] 0, .ptr [DI c_1.No,DI c_1.Set.Lo,DI c_1.Set.Hi,DI c_1.Rise.Lo,DI c_1.Rise.Hi,DI c_1.Light.Lo,DI c_1.Light.Hi,DI c_1.Fog] 0, .ptr [DI c_2] 0] (fun x=>x= .agg (Ttold.c r)):=by
 refine does_zy (X:=⟨Tryz.prog,tt,Tryz.f92.ntmps, [], [], [], [], [], []⟩) pok _ Tryz.func92 rfl rfl (Nat.le_of_ble_eq_true rfl) ?_;obtain⟨⟨x1,x2⟩,hx3,hm⟩:=bd_some hm;refine CallY.det (d_bylaw_dutyOf c_0 lamp c_1 c_2 _ hx3) ?_;cases hm;exact RetY.le (leD.refl _)
def m_bylaw_differ__bylaw_tells_1__bylaw_tells_1_L1 (c1_0:TBylaw) (c1_1:TNight) (c1_2:Int) (c2_0:TBylaw) (c2_1:TNight) (c2_2:Int):(List Int)→Int→Option (Sum (List Int) Unit):=fun v10 y4=>
 Option.bind (m_bylaw_tells_1 y4 c1_0 c1_1 c1_2) fun x16=>
 Option.bind (m_bylaw_tells_1 y4 c2_0 c2_1 c2_2) fun x18=>
 if(!((x16.d.Lit==x18.d.Lit)&&((x16.d.On.Lo==x18.d.On.Lo)&&((x16.d.On.Hi==x18.d.On.Hi)&&((x16.d.Off.Lo==x18.d.Off.Lo)&&((x16.d.Off.Hi==x18.d.Off.Hi)&&(x16.e==x18.e)))))))=true then
  gd ((v10.length+([y4]:List Int).length)*8≤140737488355328∧v10.length+([y4]:List Int).length≤9223372036854775807)<|
  some (.inl (v10++([y4]:List Int)))
 else
  some (.inl v10)
def m_bylaw_differ__bylaw_tells_1__bylaw_tells_1 (b_:TBylaw) (c1_0:TBylaw) (c1_1:TNight) (c1_2:Int) (c2_0:TBylaw) (c2_1:TNight) (c2_2:Int):Option (List Int):=
 Option.bind (m_bylaw_lamps b_ 0) fun⟨x1,x2⟩=>
 Option.bind (it_bylaw_lamps_1 x1 x2) fun l21=>
 Option.bind (rangeF (m_bylaw_differ__bylaw_tells_1__bylaw_tells_1_L1 c1_0 c1_1 c1_2 c2_0 c2_1 c2_2) l21.1 []) fun e=>
 match e with
 | .inl v22=>
  some v22
 | .inr _=>none
theorem d_bylaw_differ__bylaw_tells_1__bylaw_tells_1 (b_:TBylaw) (c1_0:TBylaw) (c1_1:TNight) (c1_2:Int) (c2_0:TBylaw) (c2_1:TNight) (c2_2:Int) (r:(List Int)) (hm:m_bylaw_differ__bylaw_tells_1__bylaw_tells_1 b_ c1_0 c1_1 c1_2 c2_0 c2_1 c2_2=some r):Does Tryz.prog 66 [.agg (TBylaw.c b_), .fn 92 [] [.ptr [lD 11 c1_0.Versions TVersion.c,lD 5 c1_0.Streets TStreet.c] 0, .ptr [DI c1_1.No,DI c1_1.Set.Lo,DI c1_1.Set.Hi,DI c1_1.Rise.Lo,DI c1_1.Rise.Hi,DI c1_1.Light.Lo,DI c1_1.Light.Hi,DI c1_1.Fog] 0, .ptr [DI c1_2] 0], .fn 92 [] [.ptr [lD 11 c2_0.Versions TVersion.c,lD 5 c2_0.Streets TStreet.c] 0, .ptr [DI c2_1.No,DI c2_1.Set.Lo,DI c2_1.Set.Hi,DI c2_1.Rise.Lo,DI c2_1.Rise.Hi,DI c2_1.Light.Lo,DI c2_1.Light.Hi,DI c2_1.Fog] 0, .ptr [DI c2_2] 0]] (fun x=>x=lD 1 r cI):=by
 refine does_zr (X:=⟨Tryz.prog,tt,Tryz.f66.ntmps,pl66, [], [], [], [], []⟩) pok _ Tryz.func66 rfl rfl (Nat.le_of_ble_eq_true rfl) ?_;intro ds;intro ds;intro ds;obtain⟨⟨x1,x2⟩,hx3,hm⟩:=bd_some hm;refine CallY.det (d_bylaw_lamps b_ 0 _ hx3) ?_;obtain⟨l21,hl24,hm⟩:=bd_some hm;obtain⟨ev23,he,hm⟩:=bd_some hm;refine RangeY.ofZ (E:=Unit) en_bylaw_lamps_1 l21.1 (m_bylaw_differ__bylaw_tells_1__bylaw_tells_1_L1 c1_0 c1_1 c1_2 c2_0 c2_1 c2_2) (fun(lpx:(List Int))=>match lpx with|v10=>(⟨[(0, .agg [lD 11 b_.Versions TVersion.c,lD 5 b_.Streets TStreet.c]),(1, .fn 92 [] [.ptr [lD 11 c1_0.Versions TVersion.c,lD 5 c1_0.Streets TStreet.c] 0, .ptr [DI c1_1.No,DI c1_1.Set.Lo,DI c1_1.Set.Hi,DI c1_1.Rise.Lo,DI c1_1.Rise.Hi,DI c1_1.Light.Lo,DI c1_1.Light.Hi,DI c1_1.Fog] 0, .ptr [DI c1_2] 0]),(2, .fn 92 [] [.ptr [lD 11 c2_0.Versions TVersion.c,lD 5 c2_0.Streets TStreet.c] 0, .ptr [DI c2_1.No,DI c2_1.Set.Lo,DI c2_1.Set.Hi,DI c2_1.Rise.Lo,DI c2_1.Rise.Hi,DI c2_1.Light.Lo,DI c2_1.Light.Hi,DI c2_1.Fog] 0, .ptr [DI c2_2] 0]),(3, .own 0 0),(4, .own 1 0),(5, .own 2 0),(6, .v (.slice none 0 0)),(7, .own 3 0)], [(0, .blk [lD 11 b_.Versions TVersion.c,lD 5 b_.Streets TStreet.c] 25),(1, .blk [.fn 92 [] [.ptr [lD 11 c1_0.Versions TVersion.c,lD 5 c1_0.Streets TStreet.c] 0, .ptr [DI c1_1.No,DI c1_1.Set.Lo,DI c1_1.Set.Hi,DI c1_1.Rise.Lo,DI c1_1.Rise.Hi,DI c1_1.Light.Lo,DI c1_1.Light.Hi,DI c1_1.Fog] 0, .ptr [DI c1_2] 0]] 115),(2, .blk [.fn 92 [] [.ptr [lD 11 c2_0.Versions TVersion.c,lD 5 c2_0.Streets TStreet.c] 0, .ptr [DI c2_1.No,DI c2_1.Set.Lo,DI c2_1.Set.Hi,DI c2_1.Rise.Lo,DI c2_1.Rise.Hi,DI c2_1.Light.Lo,DI c2_1.Light.Hi,DI c2_1.Fog] 0, .ptr [DI c2_2] 0]] 115),(3, .blk [.row 4 1] 52),(4,rE 1 v10 cI 3)],5⟩:Sy)) (fun(_:Unit)=>(⟨[], [],0⟩:Sy)) (fun _=> .ret) [] ev23 [0,1,2,3,4,5,6,7] (i_bylaw_lamps_1 x1 x2 l21.1 hl24) he (enters_f pok Tryz.func85 rfl) rfl rfl (fun _=>rfl) rfl rfl rfl (by rintro v10;rfl) (by intro _;rfl) (SubY.of 4 rfl ⟨tR rfl,tR rfl,tR rfl,tR rfl,tR rfl,tR rfl,tR rfl,tR rfl,trivial⟩ ⟨hR rfl,hR rfl,hR rfl,hR rfl,⟨rfl,rfl⟩,trivial⟩) ?_ ?_ (fun _=> .inl rfl) ?_
 rintro v22 rfl;intro ds;intro ds;cases hm;exact RetY.le (leD.refl _);rintro _ rfl;cases hm;clear he hm;rintro v10 y4 b hm;refine⟨rfl, ?_⟩;obtain⟨x25,hx26,hm⟩:=bd_some hm;refine CallY.det (d_bylaw_tells_1 y4 c1_0 c1_1 c1_2 _ hx26) ?_;obtain⟨x27,hx28,hm⟩:=bd_some hm;refine CallY.det (d_bylaw_tells_1 y4 c2_0 c2_1 c2_2 _ hx28) ?_;revert hm;refine VIf.b (fun h29 hm=> ?_) (fun h29 hm=> ?_);refine⟨([y4]:List Int).flatMap cI,([y4]:List Int).length,⟨rfl,rfl⟩, ?_⟩;obtain⟨hg,hm⟩:=gd_some hm;refine⟨hg,_,_,flat_app (c:=cI) (l:=(v10:List Int)) (r:=(([y4]:List Int):List Int)), ?_⟩;cases hm;exact⟨(v10++([y4]:List Int)),rfl,SubY.of 5 rfl ⟨tR rfl,tR rfl,tR rfl,tR rfl,tR rfl,tR rfl,tR rfl,tR rfl,trivial⟩ ⟨hR rfl,hR rfl,hR rfl,hR rfl,hW rfl,trivial⟩⟩;cases hm;exact⟨v10,rfl,SubY.of 5 rfl ⟨tR rfl,tR rfl,tR rfl,tR rfl,tR rfl,tR rfl,tR rfl,tR rfl,trivial⟩ ⟨hR rfl,hR rfl,hR rfl,hR rfl,hW rfl,trivial⟩⟩
def m_bylaw_Moved (b_:TBylaw) (source:Int) (n:TNight) (night:Int):Option ((List Int)×Int):=
 Option.bind (m_bylaw_ask b_ n ([night]:List Int)) fun x1=>
 if(x1 !=0)=true then
  some ([],x1)
 else
  Option.bind (m_bylaw_search_api_Version__bylaw_sourceOf b_.Versions source) fun⟨x4,x5⟩=>
  if(!x5)=true then
   some ([],3)
  else
   Option.bind (m_IN_bylaw_copied b_) fun⟨v12,v13⟩=>
   gd ((0<v12.length)∧(0≤x4∧x4≤(v12.length:Int)))<|
   Option.bind (some (sub v12 0 (x4).toNat)) fun sl20=>
   gd ((0<v12.length)∧(0≤(W (x4+1))∧(W (x4+1))≤(v12.length:Int)))<|
   Option.bind (some (sub v12 ((W (x4+1))).toNat v12.length)) fun sl22=>
   gd ((((x4).toNat-0)+(v12.length-((W (x4+1))).toNat))*88≤140737488355328∧((x4).toNat-0)+(v12.length-((W (x4+1))).toNat)≤9223372036854775807)<|
   Option.bind (m_bylaw_tells b_ n night) fun⟨x25,x26,x27⟩=>
   Option.bind (m_bylaw_tells (⟨(sl20++sl22),v13⟩:TBylaw) n night) fun⟨x29,x30,x31⟩=>
   Option.bind (m_bylaw_differ__bylaw_tells_1__bylaw_tells_1 b_ x25 x26 x27 x29 x30 x31) fun x33=>
   some (x33,0)
theorem d_bylaw_Moved (b_:TBylaw) (source:Int) (n:TNight) (night:Int) (r:((List Int)×Int)) (hm:m_bylaw_Moved b_ source n night=some r):Does Tryz.prog 29 [.agg (TBylaw.c b_),DI source, .agg (TNight.c n),DI night] (fun x=>x= .tup [lD 1 r.1 cI,DI r.2]):=by
 refine does_zy (X:=⟨Tryz.prog,tt,Tryz.f29.ntmps,pl29, [], [90,91], [], [65], []⟩) pok _ Tryz.func29 rfl rfl (Nat.le_of_ble_eq_true rfl) ?_;refine⟨([night]:List Int).flatMap cI,([night]:List Int).length,⟨rfl,rfl⟩, ?_⟩;obtain⟨x1,hx2,hm⟩:=bd_some hm;refine CallOwn.det (d_bylaw_ask b_ n (([night]:List Int)) _ hx2) ?_;revert hm;refine VIf.b (fun h3 hm=> ?_) (fun h3 hm=> ?_);cases hm;exact RetY.le (le2);obtain⟨⟨x4,x5⟩,hx6,hm⟩:=bd_some hm;refine CallY.det (d_bylaw_search_api_Version__bylaw_sourceOf b_.Versions source _ hx6) ?_;revert hm;refine VIf.b (fun h7 hm=> ?_) (fun h7 hm=> ?_);cases hm;exact RetY.le (le2);obtain⟨ev18,he19,hm⟩:=bd_some hm;refine CallIn.ofZ pok ⟨[(0, .agg [lD 11 b_.Versions TVersion.c,lD 5 b_.Streets TStreet.c]),(1000003,DI night),(1000004, .own 0 0),(1000006, .own 1 0),(1000011,DI x4)], [(0, .blk [lD 11 b_.Versions TVersion.c,lD 5 b_.Streets TStreet.c] 25),(1, .blk [DI n.No,DI n.Set.Lo,DI n.Set.Hi,DI n.Rise.Lo,DI n.Rise.Hi,DI n.Light.Lo,DI n.Light.Hi,DI n.Fog] 60)],3⟩ (match ev18 with|(v12,v13)=>(⟨[(3,DI night),(4, .own 0 0),(6, .own 1 0),(11,DI x4),(32, .agg [.row 5 11, .row 6 5])], [(0, .blk [lD 11 b_.Versions TVersion.c,lD 5 b_.Streets TStreet.c] 25),(1, .blk [DI n.No,DI n.Set.Lo,DI n.Set.Hi,DI n.Rise.Lo,DI n.Rise.Hi,DI n.Light.Lo,DI n.Light.Hi,DI n.Fog] 60),(5,rE 11 v12 TVersion.c 42),(6,rE 5 v13 TStreet.c 49)],7⟩:Sy):Sy) pl65 [] [90,91] [65] Tryz.func65 rfl rfl rfl (SubY.of 3 rfl ⟨tR rfl,tR rfl,tR rfl,tR rfl,tR rfl,trivial⟩ ⟨hR rfl,hR rfl,trivial⟩) (fun sv=> ?_) ?_
 have hm:=he19;refine⟨rfl, ?_⟩;obtain⟨x35,hx36,hm⟩:=bd_some hm;refine .inl (CallU.mk ⟨_,_,_,_,u_slices_Clone_api_Version_api_Version b_.Versions _ hx36, ?_⟩);obtain⟨x37,hx38,hm⟩:=bd_some hm;refine .inl (CallU.mk ⟨_,_,_,_,u_slices_Clone_api_Street_api_Street b_.Streets _ hx38, ?_⟩);cases hm;exact SubY.of 7 rfl ⟨tR rfl,tR rfl,tR rfl,tR rfl,tR rfl,trivial⟩ ⟨hR rfl,hR rfl,hW rfl,hW rfl,trivial⟩;obtain⟨v12,v13⟩:=ev18;refine⟨rfl, ?_⟩;obtain⟨hg,hm⟩:=gd_some hm;obtain⟨sl20,hy,hm⟩:=bd_some hm;refine⟨hg.1,hg.2,fun o ho=> ?_⟩;obtain rfl:o=0:=ho.2 rfl;have hr21:=rsl_part (c:=TVersion.c) (z:=11) (a:=0) (b:=(x4).toNat) (fun _=>rfl) ho hg.1 (by omega) (by omega) hy;clear ho hy;obtain⟨hg,hm⟩:=gd_some hm;obtain⟨sl22,hy,hm⟩:=bd_some hm;refine⟨hg.1,hg.2,fun o23 ho=> ?_⟩;have hr24:=rsl_part (c:=TVersion.c) (z:=11) (a:=((W (x4+1))).toNat) (b:=v12.length) (fun _=>rfl) ho hg.1 (by omega) (by omega) hy;clear ho hy;obtain⟨hg,hm⟩:=gd_some hm;refine⟨hr24.2.2.1,⟨hr21.2.2.2.1,hr21.2.2.2.2,hg⟩,_,_,rsl_app (c:=TVersion.c) hr21 hr24, ?_⟩;refine⟨rfl, ?_⟩;obtain⟨⟨x25,x26,x27⟩,hx28,hm⟩:=bd_some hm;refine CallY.det (d_bylaw_tells b_ n night _ hx28) ?_;obtain⟨⟨x29,x30,x31⟩,hx32,hm⟩:=bd_some hm;refine CallOwn.det (d_bylaw_tells ((⟨(sl20++sl22),v13⟩:TBylaw)) n night _ hx32) ?_;obtain⟨x33,hx34,hm⟩:=bd_some hm;refine CallY.det (d_bylaw_differ__bylaw_tells_1__bylaw_tells_1 b_ x25 x26 x27 x29 x30 x31 _ hx34) ?_;cases hm;exact RetY.le (leD.refl _)
def m_R01_Same_L1 (a:(List Int)) (b_:(List Int)):Int→Option (Sum Int (Sum Int Bool)):=fun v8=>
 if(decide (v8<(a.length:Int)))=true then
  Option.bind (idx a v8) fun e16=>
  Option.bind (idx b_ v8) fun e18=>
  if(e16 !=e18)=true then
   some (.inr (.inr false))
  else
   some (.inl (W (v8+1)))
 else
  some (.inr (.inl v8))
def m_R01_Same (a:(List Int)) (b_:(List Int)):Option Bool:=
 if((a.length:Int) !=(b_.length:Int))=true then
  some false
 else
  Option.bind (loopF (m_R01_Same_L1 a b_) 0) fun e=>
  match e with
  | .inl v21=>
   some true
  | .inr rr22=>
   some rr22
theorem d_R01_Same (a:(List Int)) (b_:(List Int)) (r:Bool) (hm:m_R01_Same a b_=some r):Does Tryz.prog 30 [lD 1 a cI,lD 1 b_ cI] (fun x=>x=DB r):=by
 refine does_zy (X:=⟨Tryz.prog,tt,Tryz.f30.ntmps,pl30, [], [], [], [], []⟩) pok _ Tryz.func30 rfl rfl (Nat.le_of_ble_eq_true rfl) ?_;revert hm;refine VIf.b (fun h1 hm=> ?_) (fun h1 hm=> ?_);cases hm;exact RetY.le (leD.refl _);obtain⟨ev23,he,hk24⟩:=bd_some hm;refine LoopY.ofL (m_R01_Same_L1 a b_) (fun v8=>⟨[(0,lD 1 a cI),(1,lD 1 b_ cI),(12,DI (a.length:Int)),(13,DI v8)], [],0⟩) 0 (SubY.of 0 rfl ⟨tR rfl,tR rfl,tR rfl,tR rfl,trivial⟩ trivial) he ?_;rintro fu25 v8 b hm hi26;revert hm;refine VIf.b (fun h27 hm=> ?_) (fun h27 hm=> ?_);refine⟨rfl, ?_⟩;obtain⟨e28,hx29,hm⟩:=bd_some hm;refine⟨_,el_idx (fun _=>rfl) hx29, ?_⟩;obtain⟨e30,hx31,hm⟩:=bd_some hm;refine⟨_,el_idx (fun _=>rfl) hx31, ?_⟩;revert hm;refine VIf.b (fun h32 hm=> ?_) (fun h32 hm=> ?_);cases hm;cases hi26;have hm:=hk24;cases hm;exact RetY.le (leD.refl _);cases hm;exact⟨(_,(W (v8+1))),SubY.of 0 rfl ⟨tR rfl,tR rfl,tR rfl,tR rfl,trivial⟩ trivial,hi26,Nat.lt_succ_self _⟩;cases hm;cases hi26;have hm:=hk24;cases hm;exact RetY.le (leD.refl _)
def m_L01_sane:Option Bool:=
 Option.bind (m_L01_act) fun x1=>
 Option.bind (m_L01_night) fun x3=>
 Option.bind (m_bylaw_Lit x1 10 x3 60) fun⟨x5,x6⟩=>
 Option.bind (m_bylaw_Lit x1 20 (⟨x3.No,x3.Set,x3.Rise,x3.Light,2⟩:TNight) 60) fun⟨x8,x9⟩=>
 Option.bind (m_bylaw_On x1 10 (⟨x3.No,x3.Set,x3.Rise,x3.Light,2⟩:TNight) 60) fun⟨x11,x12⟩=>
 Option.bind (m_bylaw_Off x1 10 x3 60) fun⟨x14,x15⟩=>
 Option.bind (m_bylaw_On x1 20 x3 60) fun⟨x17,x18⟩=>
 Option.bind (m_bylaw_Burns x1 10 (⟨x3.No,x3.Set,x3.Rise,(⟨100,200⟩:TRange),x3.Fog⟩:TNight) 60) fun⟨x20,x21⟩=>
 Option.bind (m_bylaw_Kept x1 10 (⟨x3.No,x3.Set,x3.Rise,(⟨100,200⟩:TRange),x3.Fog⟩:TNight) (⟨300,1050⟩:TTimes) 60) fun⟨x23,x24⟩=>
 Option.bind (m_bylaw_District x1 1) fun⟨x26,x27⟩=>
 Option.bind (m_bylaw_Moved x1 1 x3 60) fun⟨x29,x30⟩=>
 if(x6==0)=true then
  if(x9==0)=true then
   if(x12==0)=true then
    if(x15==0)=true then
     if(x18==18)=true then
      if(x21==0)=true then
       if(x24==0)=true then
        if(x27==0)=true then
         if(x30==0)=true then
          if(x5==2)=true then
           if(x8==2)=true then
            if((x11.Lo==310)&&(x11.Hi==310))=true then
             if((x14.Lo==1035)&&(x14.Hi==1070))=true then
              if((x20.Lo==695)&&(x20.Hi==760))=true then
               if(x23==2)=true then
                Option.bind (m_R01_Same x26 ([10,11,12,20]:List Int)) fun x47=>
                if x47=true then
                 Option.bind (m_R01_Same x29 ([10,11,12]:List Int)) fun x50=>
                 some x50
                else
                 some false
               else
                some false
              else
               some false
             else
              some false
            else
             some false
           else
            some false
          else
           some false
         else
          some false
        else
         some false
       else
        some false
      else
       some false
     else
      some false
    else
     some false
   else
    some false
  else
   some false
 else
  some false
theorem d_L01_sane (r:Bool) (hm:m_L01_sane=some r):Does Tryz.prog 9 [] (fun x=>x=DB r):=by
 refine does_zy (X:=⟨Tryz.prog,tt,Tryz.f9.ntmps, [], [], [], [], [], []⟩) pok _ Tryz.func9 rfl rfl (Nat.le_of_ble_eq_true rfl) ?_;obtain⟨x1,hx2,hm⟩:=bd_some hm;refine CallY.det (d_L01_act _ hx2) ?_;obtain⟨x3,hx4,hm⟩:=bd_some hm;refine CallY.det (d_L01_night _ hx4) ?_;obtain⟨⟨x5,x6⟩,hx7,hm⟩:=bd_some hm;refine CallY.det (d_bylaw_Lit x1 10 x3 60 _ hx7) ?_;obtain⟨⟨x8,x9⟩,hx10,hm⟩:=bd_some hm;refine CallY.det (d_bylaw_Lit x1 20 ((⟨x3.No,x3.Set,x3.Rise,x3.Light,2⟩:TNight)) 60 _ hx10) ?_;obtain⟨⟨x11,x12⟩,hx13,hm⟩:=bd_some hm;refine CallY.det (d_bylaw_On x1 10 ((⟨x3.No,x3.Set,x3.Rise,x3.Light,2⟩:TNight)) 60 _ hx13) ?_;obtain⟨⟨x14,x15⟩,hx16,hm⟩:=bd_some hm;refine CallY.det (d_bylaw_Off x1 10 x3 60 _ hx16) ?_;obtain⟨⟨x17,x18⟩,hx19,hm⟩:=bd_some hm;refine CallY.det (d_bylaw_On x1 20 x3 60 _ hx19) ?_;obtain⟨⟨x20,x21⟩,hx22,hm⟩:=bd_some hm;refine CallY.det (d_bylaw_Burns x1 10 ((⟨x3.No,x3.Set,x3.Rise,(⟨100,200⟩:TRange),x3.Fog⟩:TNight)) 60 _ hx22) ?_;obtain⟨⟨x23,x24⟩,hx25,hm⟩:=bd_some hm;refine CallY.det (d_bylaw_Kept x1 10 ((⟨x3.No,x3.Set,x3.Rise,(⟨100,200⟩:TRange),x3.Fog⟩:TNight)) ((⟨300,1050⟩:TTimes)) 60 _ hx25) ?_;obtain⟨⟨x26,x27⟩,hx28,hm⟩:=bd_some hm;refine CallY.det (d_bylaw_District x1 1 _ hx28) ?_;obtain⟨⟨x29,x30⟩,hx31,hm⟩:=bd_some hm;refine CallY.det (d_bylaw_Moved x1 1 x3 60 _ hx31) ?_;revert hm;refine VIf.b (fun h32 hm=> ?_) (fun h32 hm=> ?_);revert hm;refine VIf.b (fun h33 hm=> ?_) (fun h33 hm=> ?_);revert hm;refine VIf.b (fun h34 hm=> ?_) (fun h34 hm=> ?_);revert hm;refine VIf.b (fun h35 hm=> ?_) (fun h35 hm=> ?_);revert hm;refine VIf.b (fun h36 hm=> ?_) (fun h36 hm=> ?_);revert hm;refine VIf.b (fun h37 hm=> ?_) (fun h37 hm=> ?_);revert hm;refine VIf.b (fun h38 hm=> ?_) (fun h38 hm=> ?_);revert hm;refine VIf.b (fun h39 hm=> ?_) (fun h39 hm=> ?_);revert hm;refine VIf.b (fun h40 hm=> ?_) (fun h40 hm=> ?_);revert hm;refine VIf.b (fun h41 hm=> ?_) (fun h41 hm=> ?_);revert hm;refine VIf.b (fun h42 hm=> ?_) (fun h42 hm=> ?_);revert hm;refine VIf.b (fun h43 hm=> ?_) (fun h43 hm=> ?_);revert hm;refine VIf.b (fun h44 hm=> ?_) (fun h44 hm=> ?_);revert hm;refine VIf.b (fun h45 hm=> ?_) (fun h45 hm=> ?_);revert hm;refine VIf.b (fun h46 hm=> ?_) (fun h46 hm=> ?_);refine⟨([10,11,12,20]:List Int).flatMap cI,([10,11,12,20]:List Int).length,⟨rfl,rfl⟩, ?_⟩;obtain⟨x47,hx48,hm⟩:=bd_some hm;refine CallOwn.det (d_R01_Same x26 (([10,11,12,20]:List Int)) _ hx48) ?_;revert hm;refine VIf.b (fun h49 hm=> ?_) (fun h49 hm=> ?_);refine⟨([10,11,12]:List Int).flatMap cI,([10,11,12]:List Int).length,⟨rfl,rfl⟩, ?_⟩;obtain⟨x50,hx51,hm⟩:=bd_some hm;refine CallOwn.det (d_R01_Same x29 (([10,11,12]:List Int)) _ hx51) ?_;cases hm;exact RetY.le (leD.refl _);cases hm;exact RetY.le (leD.refl _);cases hm;exact RetY.le (leD.refl _);cases hm;exact RetY.le (leD.refl _);cases hm;exact RetY.le (leD.refl _);cases hm;exact RetY.le (leD.refl _);cases hm;exact RetY.le (leD.refl _);cases hm;exact RetY.le (leD.refl _);cases hm;exact RetY.le (leD.refl _);cases hm;exact RetY.le (leD.refl _);cases hm;exact RetY.le (leD.refl _);cases hm;exact RetY.le (leD.refl _);cases hm;exact RetY.le (leD.refl _);cases hm;exact RetY.le (leD.refl _);cases hm;exact RetY.le (leD.refl _);cases hm;exact RetY.le (leD.refl _);cases hm;exact RetY.le (leD.refl _)
def m_L01_BylawTexts (b_:TBylaw) (text:ByteArray):Option Bool:=
 Option.bind (m_bylaw_Print b_) fun⟨x1,x2⟩=>
 Option.bind (m_R01_Print b_) fun⟨x4,x5⟩=>
 Option.bind (m_bylaw_Parse text) fun⟨x7,x8,x9⟩=>
 Option.bind (m_R01_Parse text) fun⟨x11,x12,x13⟩=>
 if(!(x1.toList==x4.toList))=true then
  some false
 else
  if(x2 !=x5)=true then
   some false
  else
   Option.bind (m_R01_SameBylaw x7 x11) fun x17=>
   if(!x17)=true then
    some false
   else
    if(x8 !=x12)=true then
     some false
    else
     if(x9 !=x13)=true then
      some false
     else
      if(x2 !=0)=true then
       Option.bind (m_L01_sane) fun x23=>
       some x23
      else
       Option.bind (m_bylaw_Parse x1) fun⟨x25,x26,x27⟩=>
       Option.bind (m_R01_SameBylaw x25 b_) fun x29=>
       if x29=true then
        if(x26==0)=true then
         if(x27==0)=true then
          Option.bind (m_L01_sane) fun x34=>
          some x34
         else
          some false
        else
         some false
       else
        some false
theorem d_L01_BylawTexts (b_:TBylaw) (text:ByteArray) (r:Bool) (hm:m_L01_BylawTexts b_ text=some r):Does Tryz.prog 3 [.agg (TBylaw.c b_), .v (.string text)] (fun x=>x=DB r):=by
 refine does_zy (X:=⟨Tryz.prog,tt,Tryz.f3.ntmps, [], [], [], [], [], []⟩) pok _ Tryz.func3 rfl rfl (Nat.le_of_ble_eq_true rfl) ?_;obtain⟨⟨x1,x2⟩,hx3,hm⟩:=bd_some hm;refine CallY.det (d_bylaw_Print b_ _ hx3) ?_;obtain⟨⟨x4,x5⟩,hx6,hm⟩:=bd_some hm;refine CallY.det (d_R01_Print b_ _ hx6) ?_;obtain⟨⟨x7,x8,x9⟩,hx10,hm⟩:=bd_some hm;refine CallY.det (d_bylaw_Parse text _ hx10) ?_;obtain⟨⟨x11,x12,x13⟩,hx14,hm⟩:=bd_some hm;refine CallY.det (d_R01_Parse text _ hx14) ?_;revert hm;refine VIf.b (fun h15 hm=> ?_) (fun h15 hm=> ?_);cases hm;exact RetY.le (leD.refl _);revert hm;refine VIf.b (fun h16 hm=> ?_) (fun h16 hm=> ?_);cases hm;exact RetY.le (leD.refl _);obtain⟨x17,hx18,hm⟩:=bd_some hm;refine CallY.det (d_R01_SameBylaw x7 x11 _ hx18) ?_;revert hm;refine VIf.b (fun h19 hm=> ?_) (fun h19 hm=> ?_);cases hm;exact RetY.le (leD.refl _);revert hm;refine VIf.b (fun h20 hm=> ?_) (fun h20 hm=> ?_);cases hm;exact RetY.le (leD.refl _);revert hm;refine VIf.b (fun h21 hm=> ?_) (fun h21 hm=> ?_);cases hm;exact RetY.le (leD.refl _);revert hm;refine VIf.b (fun h22 hm=> ?_) (fun h22 hm=> ?_);obtain⟨x23,hx24,hm⟩:=bd_some hm;refine CallY.det (d_L01_sane _ hx24) ?_;cases hm;exact RetY.le (leD.refl _);obtain⟨⟨x25,x26,x27⟩,hx28,hm⟩:=bd_some hm;refine CallY.det (d_bylaw_Parse x1 _ hx28) ?_;obtain⟨x29,hx30,hm⟩:=bd_some hm;refine CallY.det (d_R01_SameBylaw x25 b_ _ hx30) ?_;revert hm;refine VIf.b (fun h31 hm=> ?_) (fun h31 hm=> ?_);revert hm;refine VIf.b (fun h32 hm=> ?_) (fun h32 hm=> ?_);revert hm;refine VIf.b (fun h33 hm=> ?_) (fun h33 hm=> ?_);obtain⟨x34,hx35,hm⟩:=bd_some hm;refine CallY.det (d_L01_sane _ hx35) ?_;cases hm;exact RetY.le (leD.refl _);cases hm;exact RetY.le (leD.refl _);cases hm;exact RetY.le (leD.refl _);cases hm;exact RetY.le (leD.refl _)
end Go.Proofs.YtejkiefdjcfapaaGreatDoor
