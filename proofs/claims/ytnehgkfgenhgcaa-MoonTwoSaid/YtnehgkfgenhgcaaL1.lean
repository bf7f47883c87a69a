/- Functions of the program as pure Lean functions, and that calls do what these say. Printed by a program out of the given form. -/
import Derived.Test.YtnehgkfgenhgcaaL0
set_option linter.unusedVariables false
set_option linter.unusedSimpArgs false
namespace Go.Proofs.Ytnehgkfgenhgcaa
open Go Go.RowKit Go.Sx
set_option maxRecDepth 100000
set_option maxHeartbeats 20000000
def m_R02_Mod (n:Int) (m:Int):Option Int:=
 gd (m≠0)<|
 gd (m≠0)<|
 some ((W ((n.tmod m)+m)).tmod m)
theorem d_R02_Mod (n:Int) (m:Int) (r:Int) (hm:m_R02_Mod n m=some r):Does Try.prog 5 [DI n,DI m] (fun x=>x=DI r):=by
 refine does_zy (X:=⟨Try.prog,tt,Try.f5.ntmps, [], [], [], [], [], []⟩) pok _ Try.func5 rfl rfl (Nat.le_of_ble_eq_true rfl) ?_
 obtain⟨hg,hm⟩:=gd_some hm
 refine⟨hg, ?_⟩
 obtain⟨hg,hm⟩:=gd_some hm
 refine⟨hg, ?_⟩
 cases hm
 exact RetY.le (leD.refl _)
def m_R02_frac_L1:(Int×Int)→Option (Sum (Int×Int) (Int×Int)):=fun(a4,b5)=>
 if(b5 !=0)=true then
  gd (b5≠0)<|
  some (.inl (b5,(a4.tmod b5)))
 else
  some (.inr (a4,b5))
def m_R02_frac (num:Int) (den:Int):Option TFrac:=
 if(decide (den<0))=true then
  if(decide ((W (0-num))<0))=true then
   Option.bind (loopF m_R02_frac_L1 ((W (0-(W (0-num)))),(W (0-den)))) fun(a8,b9)=>
   if(a8==0)=true then
    some (⟨(W ((W (0-num)).tdiv 1)),(W ((W (0-den)).tdiv 1))⟩:TFrac)
   else
    gd (a8≠0)<|
    gd (a8≠0)<|
    some (⟨(W ((W (0-num)).tdiv a8)),(W ((W (0-den)).tdiv a8))⟩:TFrac)
  else
   Option.bind (loopF m_R02_frac_L1 ((W (0-num)),(W (0-den)))) fun(a22,b23)=>
   if(a22==0)=true then
    some (⟨(W ((W (0-num)).tdiv 1)),(W ((W (0-den)).tdiv 1))⟩:TFrac)
   else
    gd (a22≠0)<|
    gd (a22≠0)<|
    some (⟨(W ((W (0-num)).tdiv a22)),(W ((W (0-den)).tdiv a22))⟩:TFrac)
 else
  if(decide (num<0))=true then
   Option.bind (loopF m_R02_frac_L1 ((W (0-num)),den)) fun(a37,b38)=>
   if(a37==0)=true then
    some (⟨(W (num.tdiv 1)),(W (den.tdiv 1))⟩:TFrac)
   else
    gd (a37≠0)<|
    gd (a37≠0)<|
    some (⟨(W (num.tdiv a37)),(W (den.tdiv a37))⟩:TFrac)
  else
   Option.bind (loopF m_R02_frac_L1 (num,den)) fun(a51,b52)=>
   if(a51==0)=true then
    some (⟨(W (num.tdiv 1)),(W (den.tdiv 1))⟩:TFrac)
   else
    gd (a51≠0)<|
    gd (a51≠0)<|
    some (⟨(W (num.tdiv a51)),(W (den.tdiv a51))⟩:TFrac)
theorem d_R02_frac (num:Int) (den:Int) (r:TFrac) (hm:m_R02_frac num den=some r):Does Try.prog 11 [DI num,DI den] (fun x=>x= .agg (TFrac.c r)):=by
 refine does_zy (X:=⟨Try.prog,tt,Try.f11.ntmps,pl11, [], [], [], [], []⟩) pok _ Try.func11 rfl rfl (Nat.le_of_ble_eq_true rfl) ?_
 revert hm
 refine VIf.b (fun h1 hm=> ?_) (fun h1 hm=> ?_)
 revert hm
 refine VIf.b (fun h2 hm=> ?_) (fun h2 hm=> ?_)
 obtain⟨ev11,he,hk12⟩:=bd_some hm
 refine LoopY.ofL m_R02_frac_L1 (fun(a4,b5)=>⟨[(0,DI (W (0-num))),(1,DI (W (0-den))),(4, .own 0 0),(5,DI a4),(6,DI b5),(9,DB (decide (den<0))),(16,DB (decide ((W (0-num))<0)))], [(0, .blk [DI 0,DI 0] 37)],1⟩) ((W (0-(W (0-num)))),(W (0-den))) (SubY.of 1 rfl ⟨tR rfl,tR rfl,tR rfl,tR rfl,tR rfl,tR rfl,tR rfl,trivial⟩ ⟨hR rfl,trivial⟩) he ?_
 rintro fu13 ⟨a4,b5⟩ b hm hi14
 revert hm
 refine VIf.b (fun h15 hm=> ?_) (fun h15 hm=> ?_)
 obtain⟨hg,hm⟩:=gd_some hm
 refine⟨hg, ?_⟩
 cases hm
 exact⟨(_,(b5,(a4.tmod b5))),SubY.of 1 rfl ⟨tR rfl,tR rfl,tR rfl,tR rfl,tR rfl,tR rfl,tR rfl,trivial⟩ ⟨hR rfl,trivial⟩,hi14,Nat.lt_succ_self _⟩
 cases hm
 cases hi14
 have hm:=hk12
 revert hm
 refine VIf.b (fun h16 hm=> ?_) (fun h16 hm=> ?_)
 refine⟨rfl, ?_⟩
 refine⟨by decide, ?_⟩
 refine⟨by decide, ?_⟩
 cases hm
 exact RetY.le (leD.refl _)
 refine⟨rfl, ?_⟩
 obtain⟨hg,hm⟩:=gd_some hm
 refine⟨hg, ?_⟩
 obtain⟨hg,hm⟩:=gd_some hm
 refine⟨hg, ?_⟩
 cases hm
 exact RetY.le (leD.refl _)
 obtain⟨ev25,he,hk26⟩:=bd_some hm
 refine LoopY.ofL m_R02_frac_L1 (fun(a18,b19)=>⟨[(0,DI (W (0-num))),(1,DI (W (0-den))),(4, .own 0 0),(5,DI a18),(6,DI b19),(9,DB (decide (den<0))),(16,DB (decide ((W (0-num))<0)))], [(0, .blk [DI 0,DI 0] 37)],1⟩) ((W (0-num)),(W (0-den))) (SubY.of 1 rfl ⟨tR rfl,tR rfl,tR rfl,tR rfl,tR rfl,tR rfl,tR rfl,trivial⟩ ⟨hR rfl,trivial⟩) he ?_
 rintro fu27 ⟨a18,b19⟩ b hm hi28
 revert hm
 refine VIf.b (fun h29 hm=> ?_) (fun h29 hm=> ?_)
 obtain⟨hg,hm⟩:=gd_some hm
 refine⟨hg, ?_⟩
 cases hm
 exact⟨(_,(b19,(a18.tmod b19))),SubY.of 1 rfl ⟨tR rfl,tR rfl,tR rfl,tR rfl,tR rfl,tR rfl,tR rfl,trivial⟩ ⟨hR rfl,trivial⟩,hi28,Nat.lt_succ_self _⟩
 cases hm
 cases hi28
 have hm:=hk26
 revert hm
 refine VIf.b (fun h30 hm=> ?_) (fun h30 hm=> ?_)
 refine⟨rfl, ?_⟩
 refine⟨by decide, ?_⟩
 refine⟨by decide, ?_⟩
 cases hm
 exact RetY.le (leD.refl _)
 refine⟨rfl, ?_⟩
 obtain⟨hg,hm⟩:=gd_some hm
 refine⟨hg, ?_⟩
 obtain⟨hg,hm⟩:=gd_some hm
 refine⟨hg, ?_⟩
 cases hm
 exact RetY.le (leD.refl _)
 revert hm
 refine VIf.b (fun h31 hm=> ?_) (fun h31 hm=> ?_)
 obtain⟨ev40,he,hk41⟩:=bd_some hm
 refine LoopY.ofL m_R02_frac_L1 (fun(a33,b34)=>⟨[(0,DI num),(1,DI den),(4, .own 0 0),(5,DI a33),(6,DI b34),(9,DB (decide (den<0))),(16,DB (decide (num<0)))], [(0, .blk [DI 0,DI 0] 37)],1⟩) ((W (0-num)),den) (SubY.of 1 rfl ⟨tR rfl,tR rfl,tR rfl,tR rfl,tR rfl,tR rfl,tR rfl,trivial⟩ ⟨hR rfl,trivial⟩) he ?_
 rintro fu42 ⟨a33,b34⟩ b hm hi43
 revert hm
 refine VIf.b (fun h44 hm=> ?_) (fun h44 hm=> ?_)
 obtain⟨hg,hm⟩:=gd_some hm
 refine⟨hg, ?_⟩
 cases hm
 exact⟨(_,(b34,(a33.tmod b34))),SubY.of 1 rfl ⟨tR rfl,tR rfl,tR rfl,tR rfl,tR rfl,tR rfl,tR rfl,trivial⟩ ⟨hR rfl,trivial⟩,hi43,Nat.lt_succ_self _⟩
 cases hm
 cases hi43
 have hm:=hk41
 revert hm
 refine VIf.b (fun h45 hm=> ?_) (fun h45 hm=> ?_)
 refine⟨rfl, ?_⟩
 refine⟨by decide, ?_⟩
 refine⟨by decide, ?_⟩
 cases hm
 exact RetY.le (leD.refl _)
 refine⟨rfl, ?_⟩
 obtain⟨hg,hm⟩:=gd_some hm
 refine⟨hg, ?_⟩
 obtain⟨hg,hm⟩:=gd_some hm
 refine⟨hg, ?_⟩
 cases hm
 exact RetY.le (leD.refl _)
 obtain⟨ev54,he,hk55⟩:=bd_some hm
 refine LoopY.ofL m_R02_frac_L1 (fun(a47,b48)=>⟨[(0,DI num),(1,DI den),(4, .own 0 0),(5,DI a47),(6,DI b48),(9,DB (decide (den<0))),(16,DB (decide (num<0)))], [(0, .blk [DI 0,DI 0] 37)],1⟩) (num,den) (SubY.of 1 rfl ⟨tR rfl,tR rfl,tR rfl,tR rfl,tR rfl,tR rfl,tR rfl,trivial⟩ ⟨hR rfl,trivial⟩) he ?_
 rintro fu56 ⟨a47,b48⟩ b hm hi57
 revert hm
 refine VIf.b (fun h58 hm=> ?_) (fun h58 hm=> ?_)
 obtain⟨hg,hm⟩:=gd_some hm
 refine⟨hg, ?_⟩
 cases hm
 exact⟨(_,(b48,(a47.tmod b48))),SubY.of 1 rfl ⟨tR rfl,tR rfl,tR rfl,tR rfl,tR rfl,tR rfl,tR rfl,trivial⟩ ⟨hR rfl,trivial⟩,hi57,Nat.lt_succ_self _⟩
 cases hm
 cases hi57
 have hm:=hk55
 revert hm
 refine VIf.b (fun h59 hm=> ?_) (fun h59 hm=> ?_)
 refine⟨rfl, ?_⟩
 refine⟨by decide, ?_⟩
 refine⟨by decide, ?_⟩
 cases hm
 exact RetY.le (leD.refl _)
 refine⟨rfl, ?_⟩
 obtain⟨hg,hm⟩:=gd_some hm
 refine⟨hg, ?_⟩
 obtain⟨hg,hm⟩:=gd_some hm
 refine⟨hg, ?_⟩
 cases hm
 exact RetY.le (leD.refl _)
def m_R02_sign (x:TFrac) (y:TFrac):Option Int:=
 if(decide ((W (x.Num*y.Den))<(W (y.Num*x.Den))))=true then
  some (-1)
 else
  if(decide ((W (x.Num*y.Den))>(W (y.Num*x.Den))))=true then
   some 1
  else
   some 0
theorem d_R02_sign (x:TFrac) (y:TFrac) (r:Int) (hm:m_R02_sign x y=some r):Does Try.prog 15 [.agg (TFrac.c x), .agg (TFrac.c y)] (fun x=>x=DI r):=by
 refine does_zy (X:=⟨Try.prog,tt,Try.f15.ntmps, [], [], [], [], [], []⟩) pok _ Try.func15 rfl rfl (Nat.le_of_ble_eq_true rfl) ?_
 revert hm
 refine VIf.b (fun h1 hm=> ?_) (fun h1 hm=> ?_)
 cases hm
 exact RetY.le (leD.refl _)
 revert hm
 refine VIf.b (fun h2 hm=> ?_) (fun h2 hm=> ?_)
 cases hm
 exact RetY.le (leD.refl _)
 cases hm
 exact RetY.le (leD.refl _)
def m_R02_whole (n:Int):Option TFrac:=
 some (⟨n,1⟩:TFrac)
theorem d_R02_whole (n:Int) (r:TFrac) (hm:m_R02_whole n=some r):Does Try.prog 35 [DI n] (fun x=>x= .agg (TFrac.c r)):=by
 refine does_zy (X:=⟨Try.prog,tt,Try.f35.ntmps, [], [], [], [], [], []⟩) pok _ Try.func35 rfl rfl (Nat.le_of_ble_eq_true rfl) ?_
 cases hm
 exact RetY.le (leD.refl _)
def m_R02_rows_L1 (l:(List (Int×Int×Int×Int))):(Int×(List TRow))→Option (Sum (Int×(List TRow)) (Int×(List TRow))):=fun(i48,v49)=>
 if(decide (i48<(l.length:Int)))=true then
  if(decide (i48<4))=true then
   Option.bind (idx v49 (W ((v49.length:Int)-1))) fun e100=>
   Option.bind (idx v49 (W ((v49.length:Int)-1))) fun e102=>
   Option.bind (idx l i48) fun e104=>
   Option.bind (idx l i48) fun e106=>
   Option.bind (idx l i48) fun e108=>
   Option.bind (m_R02_Mod e104.1 200) fun x110=>
   Option.bind (m_R02_Mod e106.2.1 490) fun x112=>
   Option.bind (m_R02_Mod e108.2.2.2 7) fun x114=>
   Option.bind (m_R02_frac (W (x112-90)) (W (1+x114))) fun x116=>
   Option.bind (idx l i48) fun e118=>
   Option.bind (m_R02_Mod e118.2.2.1 60) fun x120=>
   Option.bind (m_R02_frac (W (e102.Bearing.Num+(W (e102.Bearing.Den*x120)))) e102.Bearing.Den) fun x122=>
   Option.bind (m_R02_whole 90) fun x124=>
   Option.bind (m_R02_sign x116 x124) fun x126=>
   if(decide (x126>0))=true then
    Option.bind (idx l i48) fun e129=>
    Option.bind (m_R02_Mod e129.2.1 60) fun x131=>
    Option.bind (m_R02_whole x131) fun x133=>
    gd ((v49.length+([(⟨(W ((W (e102.Minute+50))+x110)),x133,x122⟩:TRow)]:List TRow).length)*40≤140737488355328∧v49.length+([(⟨(W ((W (e102.Minute+50))+x110)),x133,x122⟩:TRow)]:List TRow).length≤9223372036854775807)<|
    some (.inl ((W (i48+1)),(v49++([(⟨(W ((W (e102.Minute+50))+x110)),x133,x122⟩:TRow)]:List TRow))))
   else
    Option.bind (m_R02_whole (-90)) fun x135=>
    Option.bind (m_R02_sign x135 x116) fun x137=>
    if(decide (x137>0))=true then
     Option.bind (idx l i48) fun e140=>
     Option.bind (m_R02_Mod e140.2.1 60) fun x142=>
     Option.bind (m_R02_whole x142) fun x144=>
     gd ((v49.length+([(⟨(W ((W (e102.Minute+50))+x110)),x144,x122⟩:TRow)]:List TRow).length)*40≤140737488355328∧v49.length+([(⟨(W ((W (e102.Minute+50))+x110)),x144,x122⟩:TRow)]:List TRow).length≤9223372036854775807)<|
     some (.inl ((W (i48+1)),(v49++([(⟨(W ((W (e102.Minute+50))+x110)),x144,x122⟩:TRow)]:List TRow))))
    else
     gd ((v49.length+([(⟨(W ((W (e102.Minute+50))+x110)),x116,x122⟩:TRow)]:List TRow).length)*40≤140737488355328∧v49.length+([(⟨(W ((W (e102.Minute+50))+x110)),x116,x122⟩:TRow)]:List TRow).length≤9223372036854775807)<|
     some (.inl ((W (i48+1)),(v49++([(⟨(W ((W (e102.Minute+50))+x110)),x116,x122⟩:TRow)]:List TRow))))
  else
   some (.inr (i48,v49))
 else
  some (.inr (i48,v49))
def m_R02_rows (l:(List (Int×Int×Int×Int))):Option (List TRow):=
 Option.bind (loopF (m_R02_rows_L1 l) (0,([(⟨0,(⟨(-20),1⟩:TFrac),(⟨60,1⟩:TFrac)⟩:TRow)]:List TRow))) fun(i146,v147)=>
 Option.bind (idx v147 (W ((v147.length:Int)-1))) fun e148=>
 Option.bind (idx v147 (W ((v147.length:Int)-1))) fun e150=>
 Option.bind (m_R02_whole (-10)) fun x152=>
 Option.bind (m_R02_frac (W (e150.Bearing.Num+(W (e150.Bearing.Den*20)))) e150.Bearing.Den) fun x154=>
 gd ((v147.length+([(⟨1439,x152,x154⟩:TRow)]:List TRow).length)*40≤140737488355328∧v147.length+([(⟨1439,x152,x154⟩:TRow)]:List TRow).length≤9223372036854775807)<|
 some (v147++([(⟨1439,x152,x154⟩:TRow)]:List TRow))
theorem d_R02_rows (l:(List (Int×Int×Int×Int))) (r:(List TRow)) (hm:m_R02_rows l=some r):Does Try.prog 12 [lD 4 l (fun(x:(Int×Int×Int×Int))=> [DI x.1,DI x.2.1,DI x.2.2.1,DI x.2.2.2])] (fun x=>x=lD 5 r TRow.c):=by
 refine does_zy (X:=⟨Try.prog,tt,Try.f12.ntmps,pl12, [], [], [], [], []⟩) pok _ Try.func12 rfl rfl (Nat.le_of_ble_eq_true rfl) ?_
 refine⟨([(⟨0,(⟨(-20),1⟩:TFrac),(⟨60,1⟩:TFrac)⟩:TRow)]:List TRow).flatMap TRow.c,([(⟨0,(⟨(-20),1⟩:TFrac),(⟨60,1⟩:TFrac)⟩:TRow)]:List TRow).length,⟨rfl,rfl⟩, ?_⟩
 obtain⟨ev156,he,hk157⟩:=bd_some hm
 refine LoopY.ofL (m_R02_rows_L1 l) (fun(i48,v49)=>⟨[(0,lD 4 l (fun(x:(Int×Int×Int×Int))=> [DI x.1,DI x.2.1,DI x.2.2.1,DI x.2.2.2])),(2, .v (.slice none 0 0)),(3, .row 0 5),(4,DI i48)], [(0,rE 5 v49 TRow.c 74)],1⟩) (0,([(⟨0,(⟨(-20),1⟩:TFrac),(⟨60,1⟩:TFrac)⟩:TRow)]:List TRow)) (SubY.of 1 rfl ⟨tR rfl,tR rfl,tR rfl,tR rfl,trivial⟩ ⟨hW rfl,trivial⟩) he ?_
 rintro fu158 ⟨i48,v49⟩ b hm hi159
 revert hm
 refine VIf.b (fun h160 hm=> ?_) (fun h160 hm=> ?_)
 revert hm
 refine VIf.b (fun h161 hm=> ?_) (fun h161 hm=> ?_)
 obtain⟨e162,hx163,hm⟩:=bd_some hm
 refine⟨idx_bd hx163, ?_⟩
 obtain⟨e164,hx165,hm⟩:=bd_some hm
 refine⟨_,el_row (fun _=>rfl) hx165, ?_⟩
 refine⟨rfl, ?_⟩
 obtain⟨e166,hx167,hm⟩:=bd_some hm
 refine⟨_,el_idx (fun _=>rfl) hx167, ?_⟩
 refine⟨by decide, ?_⟩
 obtain⟨e168,hx169,hm⟩:=bd_some hm
 refine⟨_,el_idx (fun _=>rfl) hx169, ?_⟩
 refine⟨by decide, ?_⟩
 obtain⟨e170,hx171,hm⟩:=bd_some hm
 refine⟨_,el_idx (fun _=>rfl) hx171, ?_⟩
 refine⟨by decide, ?_⟩
 obtain⟨x172,hx173,hm⟩:=bd_some hm
 refine CallY.det (d_R02_Mod e166.1 200 _ hx173) ?_
 obtain⟨x174,hx175,hm⟩:=bd_some hm
 refine CallY.det (d_R02_Mod e168.2.1 490 _ hx175) ?_
 obtain⟨x176,hx177,hm⟩:=bd_some hm
 refine CallY.det (d_R02_Mod e170.2.2.2 7 _ hx177) ?_
 obtain⟨x178,hx179,hm⟩:=bd_some hm
 refine CallY.det (d_R02_frac (W (x174-90)) (W (1+x176)) _ hx179) ?_
 refine⟨rfl, ?_⟩
 obtain⟨e180,hx181,hm⟩:=bd_some hm
 refine⟨_,el_idx (fun _=>rfl) hx181, ?_⟩
 refine⟨by decide, ?_⟩
 obtain⟨x182,hx183,hm⟩:=bd_some hm
 refine CallY.det (d_R02_Mod e180.2.2.1 60 _ hx183) ?_
 obtain⟨x184,hx185,hm⟩:=bd_some hm
 refine CallY.det (d_R02_frac (W (e164.Bearing.Num+(W (e164.Bearing.Den*x182)))) e164.Bearing.Den _ hx185) ?_
 refine⟨rfl, ?_⟩
 obtain⟨x186,hx187,hm⟩:=bd_some hm
 refine CallY.det (d_R02_whole 90 _ hx187) ?_
 obtain⟨x188,hx189,hm⟩:=bd_some hm
 refine CallY.det (d_R02_sign x178 x186 _ hx189) ?_
 revert hm
 refine VIf.b (fun h190 hm=> ?_) (fun h190 hm=> ?_)
 obtain⟨e191,hx192,hm⟩:=bd_some hm
 refine⟨_,el_idx (fun _=>rfl) hx192, ?_⟩
 refine⟨by decide, ?_⟩
 obtain⟨x193,hx194,hm⟩:=bd_some hm
 refine CallY.det (d_R02_Mod e191.2.1 60 _ hx194) ?_
 obtain⟨x195,hx196,hm⟩:=bd_some hm
 refine CallY.det (d_R02_whole x193 _ hx196) ?_
 refine⟨([(⟨(W ((W (e164.Minute+50))+x172)),x195,x184⟩:TRow)]:List TRow).flatMap TRow.c,([(⟨(W ((W (e164.Minute+50))+x172)),x195,x184⟩:TRow)]:List TRow).length,⟨rfl,rfl⟩, ?_⟩
 obtain⟨hg,hm⟩:=gd_some hm
 refine⟨hg,_,_,flat_app (c:=TRow.c) (l:=(v49:List TRow)) (r:=(([(⟨(W ((W (e164.Minute+50))+x172)),x195,x184⟩:TRow)]:List TRow):List TRow)), ?_⟩
 cases hm
 exact⟨(_,((W (i48+1)),(v49++([(⟨(W ((W (e164.Minute+50))+x172)),x195,x184⟩:TRow)]:List TRow)))),SubY.of 1 rfl ⟨tR rfl,tR rfl,tR rfl,tR rfl,trivial⟩ ⟨hW rfl,trivial⟩,hi159,Nat.lt_succ_self _⟩
 obtain⟨x197,hx198,hm⟩:=bd_some hm
 refine CallY.det (d_R02_whole (-90) _ hx198) ?_
 obtain⟨x199,hx200,hm⟩:=bd_some hm
 refine CallY.det (d_R02_sign x197 x178 _ hx200) ?_
 revert hm
 refine VIf.b (fun h201 hm=> ?_) (fun h201 hm=> ?_)
 obtain⟨e202,hx203,hm⟩:=bd_some hm
 refine⟨_,el_idx (fun _=>rfl) hx203, ?_⟩
 refine⟨by decide, ?_⟩
 obtain⟨x204,hx205,hm⟩:=bd_some hm
 refine CallY.det (d_R02_Mod e202.2.1 60 _ hx205) ?_
 obtain⟨x206,hx207,hm⟩:=bd_some hm
 refine CallY.det (d_R02_whole x204 _ hx207) ?_
 refine⟨([(⟨(W ((W (e164.Minute+50))+x172)),x206,x184⟩:TRow)]:List TRow).flatMap TRow.c,([(⟨(W ((W (e164.Minute+50))+x172)),x206,x184⟩:TRow)]:List TRow).length,⟨rfl,rfl⟩, ?_⟩
 obtain⟨hg,hm⟩:=gd_some hm
 refine⟨hg,_,_,flat_app (c:=TRow.c) (l:=(v49:List TRow)) (r:=(([(⟨(W ((W (e164.Minute+50))+x172)),x206,x184⟩:TRow)]:List TRow):List TRow)), ?_⟩
 cases hm
 exact⟨(_,((W (i48+1)),(v49++([(⟨(W ((W (e164.Minute+50))+x172)),x206,x184⟩:TRow)]:List TRow)))),SubY.of 1 rfl ⟨tR rfl,tR rfl,tR rfl,tR rfl,trivial⟩ ⟨hW rfl,trivial⟩,hi159,Nat.lt_succ_self _⟩
 refine⟨([(⟨(W ((W (e164.Minute+50))+x172)),x178,x184⟩:TRow)]:List TRow).flatMap TRow.c,([(⟨(W ((W (e164.Minute+50))+x172)),x178,x184⟩:TRow)]:List TRow).length,⟨rfl,rfl⟩, ?_⟩
 obtain⟨hg,hm⟩:=gd_some hm
 refine⟨hg,_,_,flat_app (c:=TRow.c) (l:=(v49:List TRow)) (r:=(([(⟨(W ((W (e164.Minute+50))+x172)),x178,x184⟩:TRow)]:List TRow):List TRow)), ?_⟩
 cases hm
 exact⟨(_,((W (i48+1)),(v49++([(⟨(W ((W (e164.Minute+50))+x172)),x178,x184⟩:TRow)]:List TRow)))),SubY.of 1 rfl ⟨tR rfl,tR rfl,tR rfl,tR rfl,trivial⟩ ⟨hW rfl,trivial⟩,hi159,Nat.lt_succ_self _⟩
 cases hm
 cases hi159
 have hm:=hk157
 obtain⟨e208,hx209,hm⟩:=bd_some hm
 refine⟨idx_bd hx209, ?_⟩
 obtain⟨e210,hx211,hm⟩:=bd_some hm
 refine⟨_,el_row (fun _=>rfl) hx211, ?_⟩
 refine⟨rfl, ?_⟩
 obtain⟨x212,hx213,hm⟩:=bd_some hm
 refine CallY.det (d_R02_whole (-10) _ hx213) ?_
 obtain⟨x214,hx215,hm⟩:=bd_some hm
 refine CallY.det (d_R02_frac (W (e210.Bearing.Num+(W (e210.Bearing.Den*20)))) e210.Bearing.Den _ hx215) ?_
 refine⟨([(⟨1439,x212,x214⟩:TRow)]:List TRow).flatMap TRow.c,([(⟨1439,x212,x214⟩:TRow)]:List TRow).length,⟨rfl,rfl⟩, ?_⟩
 obtain⟨hg,hm⟩:=gd_some hm
 refine⟨hg,_,_,flat_app (c:=TRow.c) (l:=(v49:List TRow)) (r:=(([(⟨1439,x212,x214⟩:TRow)]:List TRow):List TRow)), ?_⟩
 cases hm
 exact RetY.le (leD.refl _)
 cases hm
 cases hi159
 have hm:=hk157
 obtain⟨e216,hx217,hm⟩:=bd_some hm
 refine⟨idx_bd hx217, ?_⟩
 obtain⟨e218,hx219,hm⟩:=bd_some hm
 refine⟨_,el_row (fun _=>rfl) hx219, ?_⟩
 refine⟨rfl, ?_⟩
 obtain⟨x220,hx221,hm⟩:=bd_some hm
 refine CallY.det (d_R02_whole (-10) _ hx221) ?_
 obtain⟨x222,hx223,hm⟩:=bd_some hm
 refine CallY.det (d_R02_frac (W (e218.Bearing.Num+(W (e218.Bearing.Den*20)))) e218.Bearing.Den _ hx223) ?_
 refine⟨([(⟨1439,x220,x222⟩:TRow)]:List TRow).flatMap TRow.c,([(⟨1439,x220,x222⟩:TRow)]:List TRow).length,⟨rfl,rfl⟩, ?_⟩
 obtain⟨hg,hm⟩:=gd_some hm
 refine⟨hg,_,_,flat_app (c:=TRow.c) (l:=(v49:List TRow)) (r:=(([(⟨1439,x220,x222⟩:TRow)]:List TRow):List TRow)), ?_⟩
 cases hm
 exact RetY.le (leD.refl _)
def m_R02_counts (known:Int) (until_:Int) (on:Int):Option Bool:=
 if(decide (known≤on))=true then
  if(until_==0)=true then
   some true
  else
   some (decide (until_>on))
 else
  some false
theorem d_R02_counts (known:Int) (until_:Int) (on:Int) (r:Bool) (hm:m_R02_counts known until_ on=some r):Does Try.prog 36 [DI known,DI until_,DI on] (fun x=>x=DB r):=by
 refine does_zy (X:=⟨Try.prog,tt,Try.f36.ntmps, [], [], [], [], [], []⟩) pok _ Try.func36 rfl rfl (Nat.le_of_ble_eq_true rfl) ?_
 revert hm
 refine VIf.b (fun h1 hm=> ?_) (fun h1 hm=> ?_)
 revert hm
 refine VIf.b (fun h2 hm=> ?_) (fun h2 hm=> ?_)
 cases hm
 exact RetY.le (leD.refl _)
 cases hm
 exact RetY.le (leD.refl _)
 cases hm
 exact RetY.le (leD.refl _)
def m_R02_inForce_L1 (s:TSky) (night:Int) (known:Int):(Int×Int)→Option (Sum (Int×Int) (Int×Int)):=fun(out8,i9)=>
 if(decide (i9<(s.Sheets.length:Int)))=true then
  Option.bind (idx s.Sheets i9) fun e22=>
  if(e22.Night==night)=true then
   Option.bind (m_R02_counts e22.Known e22.Until known) fun x25=>
   if x25=true then
    if(decide (out8<0))=true then
     some (.inl (i9,(W (i9+1))))
    else
     Option.bind (idx s.Sheets (if 0>out8 then 0 else out8)) fun e29=>
     if(decide (e22.Known≥e29.Known))=true then
      some (.inl (i9,(W (i9+1))))
     else
      some (.inl (out8,(W (i9+1))))
   else
    some (.inl (out8,(W (i9+1))))
  else
   some (.inl (out8,(W (i9+1))))
 else
  some (.inr (out8,i9))
def m_R02_inForce (s:TSky) (night:Int) (known:Int):Option Int:=
 Option.bind (loopF (m_R02_inForce_L1 s night known) ((-1),0)) fun(out32,i33)=>
 some out32
theorem d_R02_inForce (s:TSky) (night:Int) (known:Int) (r:Int) (hm:m_R02_inForce s night known=some r):Does Try.prog 13 [.agg (TSky.c s),DI night,DI known] (fun x=>x=DI r):=by
 refine does_zy (X:=⟨Try.prog,tt,Try.f13.ntmps,pl13, [], [], [], [], []⟩) pok _ Try.func13 rfl rfl (Nat.le_of_ble_eq_true rfl) ?_
 obtain⟨ev34,he,hk35⟩:=bd_some hm
 refine LoopY.ofL (m_R02_inForce_L1 s night known) (fun(out8,i9)=>⟨[(0, .agg [lD 9 s.Sheets TSheet.c,lD 3 s.Roofs TRoof.c,lD 6 s.Sightings TSighting.c]),(1,DI night),(2,DI known),(3, .own 0 0),(6,DI 0),(7,DI out8),(8,DI i9)], [(0, .blk [lD 9 s.Sheets TSheet.c,lD 3 s.Roofs TRoof.c,lD 6 s.Sightings TSighting.c] 32)],1⟩) ((-1),0) (SubY.of 1 rfl ⟨tR rfl,tR rfl,tR rfl,tR rfl,tR rfl,tR rfl,tR rfl,trivial⟩ ⟨hR rfl,trivial⟩) he ?_
 rintro fu36 ⟨out8,i9⟩ b hm hi37
 revert hm
 refine VIf.b (fun h38 hm=> ?_) (fun h38 hm=> ?_)
 obtain⟨e39,hx40,hm⟩:=bd_some hm
 refine⟨_,el_idx (fun _=>rfl) hx40, ?_⟩
 refine⟨rfl, ?_⟩
 revert hm
 refine VIf.b (fun h41 hm=> ?_) (fun h41 hm=> ?_)
 obtain⟨x42,hx43,hm⟩:=bd_some hm
 refine CallY.det (d_R02_counts e39.Known e39.Until known _ hx43) ?_
 revert hm
 refine VIf.b (fun h44 hm=> ?_) (fun h44 hm=> ?_)
 revert hm
 refine VIf.b (fun h45 hm=> ?_) (fun h45 hm=> ?_)
 cases hm
 exact⟨(_,(i9,(W (i9+1)))),SubY.of 1 rfl ⟨tR rfl,tR rfl,tR rfl,tR rfl,tR rfl,tR rfl,tR rfl,trivial⟩ ⟨hR rfl,trivial⟩,hi37,Nat.lt_succ_self _⟩
 obtain⟨e46,hx47,hm⟩:=bd_some hm
 refine⟨_,el_idx (fun _=>rfl) hx47, ?_⟩
 revert hm
 refine VIf.b (fun h48 hm=> ?_) (fun h48 hm=> ?_)
 cases hm
 exact⟨(_,(i9,(W (i9+1)))),SubY.of 1 rfl ⟨tR rfl,tR rfl,tR rfl,tR rfl,tR rfl,tR rfl,tR rfl,trivial⟩ ⟨hR rfl,trivial⟩,hi37,Nat.lt_succ_self _⟩
 cases hm
 exact⟨(_,(out8,(W (i9+1)))),SubY.of 1 rfl ⟨tR rfl,tR rfl,tR rfl,tR rfl,tR rfl,tR rfl,tR rfl,trivial⟩ ⟨hR rfl,trivial⟩,hi37,Nat.lt_succ_self _⟩
 cases hm
 exact⟨(_,(out8,(W (i9+1)))),SubY.of 1 rfl ⟨tR rfl,tR rfl,tR rfl,tR rfl,tR rfl,tR rfl,tR rfl,trivial⟩ ⟨hR rfl,trivial⟩,hi37,Nat.lt_succ_self _⟩
 cases hm
 exact⟨(_,(out8,(W (i9+1)))),SubY.of 1 rfl ⟨tR rfl,tR rfl,tR rfl,tR rfl,tR rfl,tR rfl,tR rfl,trivial⟩ ⟨hR rfl,trivial⟩,hi37,Nat.lt_succ_self _⟩
 cases hm
 cases hi37
 have hm:=hk35
 cases hm
 exact RetY.le (leD.refl _)
def m_R02_True (x:TSheet) (off:Int):Option TFrac:=
 Option.bind (m_R02_Mod off 25) fun x1=>
 Option.bind (m_R02_frac (W (x.Off.Num*(W (x1-12)))) (W (x.Off.Den*12))) fun x3=>
 some x3
theorem d_R02_True (x:TSheet) (off:Int) (r:TFrac) (hm:m_R02_True x off=some r):Does Try.prog 14 [.agg (TSheet.c x),DI off] (fun x=>x= .agg (TFrac.c r)):=by
 refine does_zy (X:=⟨Try.prog,tt,Try.f14.ntmps, [], [], [], [], [], []⟩) pok _ Try.func14 rfl rfl (Nat.le_of_ble_eq_true rfl) ?_
 obtain⟨x1,hx2,hm⟩:=bd_some hm
 refine CallY.det (d_R02_Mod off 25 _ hx2) ?_
 obtain⟨x3,hx4,hm⟩:=bd_some hm
 refine CallY.det (d_R02_frac (W (x.Off.Num*(W (x1-12)))) (W (x.Off.Den*12)) _ hx4) ?_
 cases hm
 exact RetY.le (leD.refl _)
def m_R02_minus (x:TFrac):Option TFrac:=
 some (⟨(W (0-x.Num)),x.Den⟩:TFrac)
theorem d_R02_minus (x:TFrac) (r:TFrac) (hm:m_R02_minus x=some r):Does Try.prog 16 [.agg (TFrac.c x)] (fun x=>x= .agg (TFrac.c r)):=by
 refine does_zy (X:=⟨Try.prog,tt,Try.f16.ntmps, [], [], [], [], [], []⟩) pok _ Try.func16 rfl rfl (Nat.le_of_ble_eq_true rfl) ?_
 cases hm
 exact RetY.le (leD.refl _)
def m_R02_between (a:TFrac) (b_:TFrac) (at_:(Int×Int×Int)):Option TFrac:=
 Option.bind (m_R02_frac (W ((W ((W (a.Num*b_.Den))*(W (at_.2.1-at_.1))))+(W ((W ((W (b_.Num*a.Den))-(W (a.Num*b_.Den))))*(W (at_.2.2-at_.1)))))) (W ((W (a.Den*b_.Den))*(W (at_.2.1-at_.1))))) fun x1=>
 some x1
theorem d_R02_between (a:TFrac) (b_:TFrac) (at_:(Int×Int×Int)) (r:TFrac) (hm:m_R02_between a b_ at_=some r):Does Try.prog 53 [.agg (TFrac.c a), .agg (TFrac.c b_), .agg [DI at_.1,DI at_.2.1,DI at_.2.2]] (fun x=>x= .agg (TFrac.c r)):=by
 refine does_zy (X:=⟨Try.prog,tt,Try.f53.ntmps, [], [], [], [], [], []⟩) pok _ Try.func53 rfl rfl (Nat.le_of_ble_eq_true rfl) ?_
 refine⟨by decide, ?_⟩
 refine⟨by decide, ?_⟩
 refine⟨by decide, ?_⟩
 obtain⟨x1,hx2,hm⟩:=bd_some hm
 refine CallY.det (d_R02_frac (W ((W ((W (a.Num*b_.Den))*(W (at_.2.1-at_.1))))+(W ((W ((W (b_.Num*a.Den))-(W (a.Num*b_.Den))))*(W (at_.2.2-at_.1)))))) (W ((W (a.Den*b_.Den))*(W (at_.2.1-at_.1)))) _ hx2) ?_
 cases hm
 exact RetY.le (leD.refl _)
def m_R02_place_L1 (s:TSheet) (t:Int):Int→Option (Sum Int Int):=fun i5=>
 if(decide ((W (i5+2))<(s.Rows.length:Int)))=true then
  Option.bind (idx s.Rows (W (i5+1))) fun e11=>
  if(decide (e11.Minute≤t))=true then
   some (.inl (W (i5+1)))
  else
   some (.inr i5)
 else
  some (.inr i5)
def m_R02_place (s:TSheet) (t:Int):Option (TFrac×TFrac):=
 Option.bind (loopF (m_R02_place_L1 s t) 0) fun i14=>
 Option.bind (idx s.Rows i14) fun e15=>
 Option.bind (idx s.Rows (W (i14+1))) fun e17=>
 Option.bind (m_R02_between e15.Height e17.Height (e15.Minute,e17.Minute,t)) fun x19=>
 Option.bind (m_R02_between e15.Bearing e17.Bearing (e15.Minute,e17.Minute,t)) fun x21=>
 some (x19,x21)
theorem d_R02_place (s:TSheet) (t:Int) (r:(TFrac×TFrac)) (hm:m_R02_place s t=some r):Does Try.prog 37 [.agg (TSheet.c s),DI t] (fun x=>x= .tup [.agg (TFrac.c r.1), .agg (TFrac.c r.2)]):=by
 refine does_zy (X:=⟨Try.prog,tt,Try.f37.ntmps,pl37, [], [], [], [], []⟩) pok _ Try.func37 rfl rfl (Nat.le_of_ble_eq_true rfl) ?_
 obtain⟨ev23,he,hk24⟩:=bd_some hm
 refine LoopY.ofL (m_R02_place_L1 s t) (fun i5=>⟨[(0, .agg [DI s.Source,DI s.Night,DI s.Known,DI s.Until,lD 5 s.Rows TRow.c,DI s.Off.Num,DI s.Off.Den,DI s.Light.Lo,DI s.Light.Hi]),(1,DI t),(2, .own 0 0),(4, .own 1 0),(5, .own 2 0),(6,DI i5)], [(0, .blk [DI s.Source,DI s.Night,DI s.Known,DI s.Until,lD 5 s.Rows TRow.c,DI s.Off.Num,DI s.Off.Den,DI s.Light.Lo,DI s.Light.Hi] 41),(1, .blk [DI 0,DI 0] 37),(2, .blk [DI 0,DI 0] 37)],3⟩) 0 (SubY.of 3 rfl ⟨tR rfl,tR rfl,tR rfl,tR rfl,tR rfl,tR rfl,trivial⟩ ⟨hR rfl,hR rfl,hR rfl,trivial⟩) he ?_
 rintro fu25 i5 b hm hi26
 revert hm
 refine VIf.b (fun h27 hm=> ?_) (fun h27 hm=> ?_)
 obtain⟨e28,hx29,hm⟩:=bd_some hm
 refine⟨_,el_idx (fun _=>rfl) hx29, ?_⟩
 revert hm
 refine VIf.b (fun h30 hm=> ?_) (fun h30 hm=> ?_)
 cases hm
 exact⟨(_,(W (i5+1))),SubY.of 3 rfl ⟨tR rfl,tR rfl,tR rfl,tR rfl,tR rfl,tR rfl,trivial⟩ ⟨hR rfl,hR rfl,hR rfl,trivial⟩,hi26,Nat.lt_succ_self _⟩
 cases hm
 have hm:=hk24
 rw [show ev23=i5 from by first|exact hi26|exact hi26.symm]at hm
 obtain⟨e31,hx32,hm⟩:=bd_some hm
 refine⟨_,el_idx (fun _=>rfl) hx32, ?_⟩
 obtain⟨e33,hx34,hm⟩:=bd_some hm
 refine⟨_,el_idx (fun _=>rfl) hx34, ?_⟩
 obtain⟨x35,hx36,hm⟩:=bd_some hm
 refine CallY.det (d_R02_between e31.Height e33.Height (e31.Minute,e33.Minute,t) _ hx36) ?_
 obtain⟨x37,hx38,hm⟩:=bd_some hm
 refine CallY.det (d_R02_between e31.Bearing e33.Bearing (e31.Minute,e33.Minute,t) _ hx38) ?_
 refine⟨rfl, ?_⟩
 cases hm
 exact RetY.le (leD.refl _)
 cases hm
 have hm:=hk24
 rw [show ev23=i5 from by first|exact hi26|exact hi26.symm]at hm
 obtain⟨e39,hx40,hm⟩:=bd_some hm
 refine⟨_,el_idx (fun _=>rfl) hx40, ?_⟩
 obtain⟨e41,hx42,hm⟩:=bd_some hm
 refine⟨_,el_idx (fun _=>rfl) hx42, ?_⟩
 obtain⟨x43,hx44,hm⟩:=bd_some hm
 refine CallY.det (d_R02_between e39.Height e41.Height (e39.Minute,e41.Minute,t) _ hx44) ?_
 obtain⟨x45,hx46,hm⟩:=bd_some hm
 refine CallY.det (d_R02_between e39.Bearing e41.Bearing (e39.Minute,e41.Minute,t) _ hx46) ?_
 refine⟨rfl, ?_⟩
 cases hm
 exact RetY.le (leD.refl _)
def m_R02_less (x:TFrac) (n:Int):Option TFrac:=
 Option.bind (m_R02_frac (W (x.Num-(W (n*x.Den)))) x.Den) fun x1=>
 some x1
theorem d_R02_less (x:TFrac) (n:Int) (r:TFrac) (hm:m_R02_less x n=some r):Does Try.prog 38 [.agg (TFrac.c x),DI n] (fun x=>x= .agg (TFrac.c r)):=by
 refine does_zy (X:=⟨Try.prog,tt,Try.f38.ntmps, [], [], [], [], [], []⟩) pok _ Try.func38 rfl rfl (Nat.le_of_ble_eq_true rfl) ?_
 obtain⟨x1,hx2,hm⟩:=bd_some hm
 refine CallY.det (d_R02_frac (W (x.Num-(W (n*x.Den)))) x.Den _ hx2) ?_
 cases hm
 exact RetY.le (leD.refl _)
def m_R02_horizon_L1 (l:(List TRoof)) (g:TFrac):(Int×Int)→Option (Sum (Int×Int) (Int×Int)):=fun(top18,i19)=>
 if(decide (i19<(l.length:Int)))=true then
  Option.bind (idx l i19) fun e38=>
  Option.bind (m_R02_whole e38.From) fun x40=>
  Option.bind (m_R02_sign x40 g) fun x42=>
  if(decide (x42≤0))=true then
   Option.bind (idx l i19) fun e45=>
   Option.bind (m_R02_whole e45.To) fun x47=>
   Option.bind (m_R02_sign g x47) fun x49=>
   if(decide (x49<0))=true then
    Option.bind (idx l i19) fun e52=>
    some (.inl ((if e52.Top>top18 then e52.Top else top18),(W (i19+1))))
   else
    some (.inl (top18,(W (i19+1))))
  else
   some (.inl (top18,(W (i19+1))))
 else
  some (.inr (top18,i19))
def m_R02_horizon (l:(List TRoof)) (g:TFrac):Option Int:=
 Option.bind (loopF (m_R02_horizon_L1 l g) (0,0)) fun(top54,i55)=>
 some top54
theorem d_R02_horizon (l:(List TRoof)) (g:TFrac) (r:Int) (hm:m_R02_horizon l g=some r):Does Try.prog 39 [lD 3 l TRoof.c, .agg (TFrac.c g)] (fun x=>x=DI r):=by
 refine does_zy (X:=⟨Try.prog,tt,Try.f39.ntmps,pl39, [], [], [], [], []⟩) pok _ Try.func39 rfl rfl (Nat.le_of_ble_eq_true rfl) ?_
 obtain⟨ev56,he,hk57⟩:=bd_some hm
 refine LoopY.ofL (m_R02_horizon_L1 l g) (fun(top18,i19)=>⟨[(0,lD 3 l TRoof.c),(1, .agg [DI g.Num,DI g.Den]),(3, .own 0 0),(4,DI 0),(5,DI top18),(6,DI i19)], [(0, .blk [DI g.Num,DI g.Den] 37)],1⟩) (0,0) (SubY.of 1 rfl ⟨tR rfl,tR rfl,tR rfl,tR rfl,tR rfl,tR rfl,trivial⟩ ⟨hR rfl,trivial⟩) he ?_
 rintro fu58 ⟨top18,i19⟩ b hm hi59
 revert hm
 refine VIf.b (fun h60 hm=> ?_) (fun h60 hm=> ?_)
 refine⟨rfl, ?_⟩
 obtain⟨e61,hx62,hm⟩:=bd_some hm
 refine⟨_,el_idx (fun _=>rfl) hx62, ?_⟩
 obtain⟨x63,hx64,hm⟩:=bd_some hm
 refine CallY.det (d_R02_whole e61.From _ hx64) ?_
 obtain⟨x65,hx66,hm⟩:=bd_some hm
 refine CallY.det (d_R02_sign x63 g _ hx66) ?_
 revert hm
 refine VIf.b (fun h67 hm=> ?_) (fun h67 hm=> ?_)
 obtain⟨e68,hx69,hm⟩:=bd_some hm
 refine⟨_,el_idx (fun _=>rfl) hx69, ?_⟩
 obtain⟨x70,hx71,hm⟩:=bd_some hm
 refine CallY.det (d_R02_whole e68.To _ hx71) ?_
 obtain⟨x72,hx73,hm⟩:=bd_some hm
 refine CallY.det (d_R02_sign g x70 _ hx73) ?_
 revert hm
 refine VIf.b (fun h74 hm=> ?_) (fun h74 hm=> ?_)
 obtain⟨e75,hx76,hm⟩:=bd_some hm
 refine⟨_,el_idx (fun _=>rfl) hx76, ?_⟩
 cases hm
 exact⟨(_,((if e75.Top>top18 then e75.Top else top18),(W (i19+1)))),SubY.of 1 rfl ⟨tR rfl,tR rfl,tR rfl,tR rfl,tR rfl,tR rfl,trivial⟩ ⟨hR rfl,trivial⟩,hi59,Nat.lt_succ_self _⟩
 cases hm
 exact⟨(_,(top18,(W (i19+1)))),SubY.of 1 rfl ⟨tR rfl,tR rfl,tR rfl,tR rfl,tR rfl,tR rfl,trivial⟩ ⟨hR rfl,trivial⟩,hi59,Nat.lt_succ_self _⟩
 cases hm
 exact⟨(_,(top18,(W (i19+1)))),SubY.of 1 rfl ⟨tR rfl,tR rfl,tR rfl,tR rfl,tR rfl,tR rfl,trivial⟩ ⟨hR rfl,trivial⟩,hi59,Nat.lt_succ_self _⟩
 cases hm
 cases hi59
 have hm:=hk57
 cases hm
 exact RetY.le (leD.refl _)
def m_R02_margin (s:TSheet) (l:(List TRoof)) (t:Int):Option TFrac:=
 Option.bind (m_R02_place s t) fun⟨x1,x2⟩=>
 Option.bind (m_R02_horizon l x2) fun x4=>
 Option.bind (m_R02_less x1 x4) fun x6=>
 some x6
theorem d_R02_margin (s:TSheet) (l:(List TRoof)) (t:Int) (r:TFrac) (hm:m_R02_margin s l t=some r):Does Try.prog 17 [.agg (TSheet.c s),lD 3 l TRoof.c,DI t] (fun x=>x= .agg (TFrac.c r)):=by
 refine does_zy (X:=⟨Try.prog,tt,Try.f17.ntmps,pl17, [], [], [], [], []⟩) pok _ Try.func17 rfl rfl (Nat.le_of_ble_eq_true rfl) ?_
 obtain⟨⟨x1,x2⟩,hx3,hm⟩:=bd_some hm
 refine CallY.det (d_R02_place s t _ hx3) ?_
 refine⟨rfl, ?_⟩
 obtain⟨x4,hx5,hm⟩:=bd_some hm
 refine CallY.det (d_R02_horizon l x2 _ hx5) ?_
 obtain⟨x6,hx7,hm⟩:=bd_some hm
 refine CallY.det (d_R02_less x1 x4 _ hx7) ?_
 cases hm
 exact RetY.le (leD.refl _)
def m_R02_Made_L1 (r_:TRaw):(Int×(List TSheet)×(List TSheet))→Option (Sum (Int×(List TSheet)×(List TSheet)) (Int×(List TSheet)×(List TSheet))):=fun(i29,v30,v31)=>
 if(decide (i29<(r_.Sheets.length:Int)))=true then
  if(decide (i29<3))=true then
   Option.bind (idx r_.Sheets i29) fun e63=>
   Option.bind (m_R02_Mod e63.1 2) fun x65=>
   Option.bind (m_R02_Mod e63.2.1 10) fun x67=>
   Option.bind (m_R02_Mod e63.2.2.1 40) fun x69=>
   Option.bind (m_R02_Mod (W (e63.2.2.1.tdiv 40)) 9) fun x71=>
   Option.bind (m_R02_frac x69 (W (1+x71))) fun x73=>
   Option.bind (m_R02_Mod e63.2.2.2 500) fun x75=>
   Option.bind (m_R02_Mod e63.2.2.2 500) fun x77=>
   Option.bind (m_R02_Mod (W (e63.2.2.2.tdiv 500)) 400) fun x79=>
   if(decide ((r_.Rows.length:Int)>0))=true then
    Option.bind (m_R02_Mod i29 (r_.Rows.length:Int)) fun x82=>
    Option.bind (idx r_.Rows x82) fun e84=>
    Option.bind (m_R02_rows e84) fun x86=>
    gd ((v31.length+([(⟨(W ((W (3*i29))+2)),(W (x65+5)),x67,0,x86,x73,(⟨x75,(W (x77+x79))⟩:TRange)⟩:TSheet)]:List TSheet).length)*88≤140737488355328∧v31.length+([(⟨(W ((W (3*i29))+2)),(W (x65+5)),x67,0,x86,x73,(⟨x75,(W (x77+x79))⟩:TRange)⟩:TSheet)]:List TSheet).length≤9223372036854775807)<|
    some (.inl ((W (i29+1)),v30,(v31++([(⟨(W ((W (3*i29))+2)),(W (x65+5)),x67,0,x86,x73,(⟨x75,(W (x77+x79))⟩:TRange)⟩:TSheet)]:List TSheet))))
   else
    Option.bind (m_R02_rows []) fun x88=>
    gd ((v31.length+([(⟨(W ((W (3*i29))+2)),(W (x65+5)),x67,0,x88,x73,(⟨x75,(W (x77+x79))⟩:TRange)⟩:TSheet)]:List TSheet).length)*88≤140737488355328∧v31.length+([(⟨(W ((W (3*i29))+2)),(W (x65+5)),x67,0,x88,x73,(⟨x75,(W (x77+x79))⟩:TRange)⟩:TSheet)]:List TSheet).length≤9223372036854775807)<|
    some (.inl ((W (i29+1)),v30,(v31++([(⟨(W ((W (3*i29))+2)),(W (x65+5)),x67,0,x88,x73,(⟨x75,(W (x77+x79))⟩:TRange)⟩:TSheet)]:List TSheet))))
  else
   some (.inr (i29,v30,v31))
 else
  some (.inr (i29,v30,v31))
def m_R02_Made_L2 (r_:TRaw):(Int×(List TRoof))→Option (Sum (Int×(List TRoof)) (Int×(List TRoof))):=fun(i102,v103)=>
 if(decide (i102<(r_.Roofs.length:Int)))=true then
  if(decide (i102<5))=true then
   Option.bind (idx r_.Roofs i102) fun e116=>
   Option.bind (m_R02_Mod e116.1 300) fun x118=>
   Option.bind (m_R02_Mod e116.2.1 59) fun x120=>
   Option.bind (m_R02_Mod e116.2.2 30) fun x122=>
   gd ((v103.length+([(⟨x118,(W ((W (x118+1))+x120)),x122⟩:TRoof)]:List TRoof).length)*24≤140737488355328∧v103.length+([(⟨x118,(W ((W (x118+1))+x120)),x122⟩:TRoof)]:List TRoof).length≤9223372036854775807)<|
   some (.inl ((W (i102+1)),(v103++([(⟨x118,(W ((W (x118+1))+x120)),x122⟩:TRoof)]:List TRoof))))
  else
   some (.inr (i102,v103))
 else
  some (.inr (i102,v103))
def m_R02_Made_L3 (r_:TRaw) (v92:(List TSheet)) (v125:(List TRoof)):(Int×(List TSighting)×(List TSighting))→Option (Sum (Int×(List TSighting)×(List TSighting)) (Int×(List TSighting)×(List TSighting))):=fun(i157,v158,v159)=>
 if(decide (i157<(r_.Sightings.length:Int)))=true then
  if(decide (i157<6))=true then
   Option.bind (idx r_.Sightings i157) fun e194=>
   Option.bind (m_R02_Mod e194.1 2) fun x196=>
   Option.bind (m_R02_Mod e194.2.1 1440) fun x198=>
   Option.bind (m_R02_Mod e194.2.2.2 20) fun x200=>
   Option.bind (m_R02_inForce (⟨v92,v125,v159⟩:TSky) (W (x196+5)) 20) fun x202=>
   if(decide (x202<0))=true then
    some (.inl ((W (i157+1)),v158,v159))
   else
    Option.bind (idx v92 x202) fun e205=>
    Option.bind (idx v92 x202) fun e207=>
    Option.bind (m_R02_True e207 r_.Off) fun x209=>
    Option.bind (idx v92 x202) fun e211=>
    Option.bind (idx v92 x202) fun e213=>
    Option.bind (m_R02_margin e213 v125 x198) fun x215=>
    Option.bind (m_R02_minus x215) fun x217=>
    Option.bind (m_R02_sign x209 x217) fun x219=>
    Option.bind (m_R02_Mod e194.2.2.1 9) fun x221=>
    if(x221==8)=true then
     gd ((v159.length+([(⟨(W ((W (5*i157))+40)),(W (x196+5)),x198,(!(decide (x219>0))),x200,0⟩:TSighting)]:List TSighting).length)*48≤140737488355328∧v159.length+([(⟨(W ((W (5*i157))+40)),(W (x196+5)),x198,(!(decide (x219>0))),x200,0⟩:TSighting)]:List TSighting).length≤9223372036854775807)<|
     some (.inl ((W (i157+1)),v158,(v159++([(⟨(W ((W (5*i157))+40)),(W (x196+5)),x198,(!(decide (x219>0))),x200,0⟩:TSighting)]:List TSighting))))
    else
     gd ((v159.length+([(⟨(W ((W (5*i157))+40)),(W (x196+5)),x198,(decide (x219>0)),x200,0⟩:TSighting)]:List TSighting).length)*48≤140737488355328∧v159.length+([(⟨(W ((W (5*i157))+40)),(W (x196+5)),x198,(decide (x219>0)),x200,0⟩:TSighting)]:List TSighting).length≤9223372036854775807)<|
     some (.inl ((W (i157+1)),v158,(v159++([(⟨(W ((W (5*i157))+40)),(W (x196+5)),x198,(decide (x219>0)),x200,0⟩:TSighting)]:List TSighting))))
  else
   some (.inr (i157,v158,v159))
 else
  some (.inr (i157,v158,v159))
def m_R02_Made (r_:TRaw):Option TSky:=
 Option.bind (loopF (m_R02_Made_L1 r_) (0, [], [])) fun(i90,v91,v92)=>
 Option.bind (loopF (m_R02_Made_L2 r_) (0, [])) fun(i124,v125)=>
 Option.bind (loopF (m_R02_Made_L3 r_ v92 v125) (0, [], [])) fun(i224,v225,v226)=>
 some (⟨v92,v125,v226⟩:TSky)
theorem d_R02_Made (r_:TRaw) (r:TSky) (hm:m_R02_Made r_=some r):Does Try.prog 4 [.agg (TRaw.c r_)] (fun x=>x= .agg (TSky.c r)):=by
 refine does_zy (X:=⟨Try.prog,tt,Try.f4.ntmps,pl4, [], [], [], [], []⟩) pok _ Try.func4 rfl rfl (Nat.le_of_ble_eq_true rfl) ?_
 obtain⟨ev551,he,hk552⟩:=bd_some hm
 refine LoopY.ofL (m_R02_Made_L1 r_) (fun(i29,v30,v31)=>⟨[(0, .agg [lD 1 r_.Rows (fun(x:(List (Int×Int×Int×Int)))=> [lD 4 x (fun(x:(Int×Int×Int×Int))=> [DI x.1,DI x.2.1,DI x.2.2.1,DI x.2.2.2])]),lD 4 r_.Sheets (fun(x:(Int×Int×Int×Int))=> [DI x.1,DI x.2.1,DI x.2.2.1,DI x.2.2.2]),lD 3 r_.Roofs (fun(x:(Int×Int×Int))=> [DI x.1,DI x.2.1,DI x.2.2]),lD 4 r_.Sightings (fun(x:(Int×Int×Int×Int))=> [DI x.1,DI x.2.1,DI x.2.2.1,DI x.2.2.2]),DI r_.Off]),(1, .own 0 0),(2, .own 1 0),(3, .own 2 0),(4,DI i29)], [(0, .blk [lD 1 r_.Rows (fun(x:(List (Int×Int×Int×Int)))=> [lD 4 x (fun(x:(Int×Int×Int×Int))=> [DI x.1,DI x.2.1,DI x.2.2.1,DI x.2.2.2])]),lD 4 r_.Sheets (fun(x:(Int×Int×Int×Int))=> [DI x.1,DI x.2.1,DI x.2.2.1,DI x.2.2.2]),lD 3 r_.Roofs (fun(x:(Int×Int×Int))=> [DI x.1,DI x.2.1,DI x.2.2]),lD 4 r_.Sightings (fun(x:(Int×Int×Int×Int))=> [DI x.1,DI x.2.1,DI x.2.2.1,DI x.2.2.2]),DI r_.Off] 26),(1, .blk [.v (.slice none 0 0), .v (.slice none 0 0), .v (.slice none 0 0)] 32),(2, .blk [.row 4 9, .v (.slice none 0 0), .v (.slice none 0 0)] 32),(3,rE 9 v30 TSheet.c 41),(4,rE 9 v31 TSheet.c 41)],5⟩) (0, [], []) (SubY.of 3 rfl ⟨tR rfl,tR rfl,tR rfl,tR rfl,tR rfl,trivial⟩ ⟨hR rfl,hR rfl,hR rfl,⟨rfl,rfl⟩,⟨rfl,rfl⟩,trivial⟩) he ?_
 rintro fu553 ⟨i29,v30,v31⟩ b hm hi554
 revert hm
 refine VIf.b (fun h555 hm=> ?_) (fun h555 hm=> ?_)
 revert hm
 refine VIf.b (fun h556 hm=> ?_) (fun h556 hm=> ?_)
 obtain⟨e557,hx558,hm⟩:=bd_some hm
 refine⟨_,el_idx (fun _=>rfl) hx558, ?_⟩
 refine⟨rfl, ?_⟩
 refine⟨by decide, ?_⟩
 refine⟨by decide, ?_⟩
 refine⟨by decide, ?_⟩
 refine⟨by decide, ?_⟩
 refine⟨by decide, ?_⟩
 refine⟨by decide, ?_⟩
 refine⟨by decide, ?_⟩
 refine⟨by decide, ?_⟩
 refine⟨by decide, ?_⟩
 obtain⟨x559,hx560,hm⟩:=bd_some hm
 refine CallY.det (d_R02_Mod e557.1 2 _ hx560) ?_
 obtain⟨x561,hx562,hm⟩:=bd_some hm
 refine CallY.det (d_R02_Mod e557.2.1 10 _ hx562) ?_
 obtain⟨x563,hx564,hm⟩:=bd_some hm
 refine CallY.det (d_R02_Mod e557.2.2.1 40 _ hx564) ?_
 obtain⟨x565,hx566,hm⟩:=bd_some hm
 refine CallY.det (d_R02_Mod (W (e557.2.2.1.tdiv 40)) 9 _ hx566) ?_
 obtain⟨x567,hx568,hm⟩:=bd_some hm
 refine CallY.det (d_R02_frac x563 (W (1+x565)) _ hx568) ?_
 obtain⟨x569,hx570,hm⟩:=bd_some hm
 refine CallY.det (d_R02_Mod e557.2.2.2 500 _ hx570) ?_
 obtain⟨x571,hx572,hm⟩:=bd_some hm
 refine CallY.det (d_R02_Mod e557.2.2.2 500 _ hx572) ?_
 obtain⟨x573,hx574,hm⟩:=bd_some hm
 refine CallY.det (d_R02_Mod (W (e557.2.2.2.tdiv 500)) 400 _ hx574) ?_
 revert hm
 refine VIf.b (fun h575 hm=> ?_) (fun h575 hm=> ?_)
 refine⟨rfl, ?_⟩
 obtain⟨x576,hx577,hm⟩:=bd_some hm
 refine CallY.det (d_R02_Mod i29 ((r_.Rows.length:Int)) _ hx577) ?_
 obtain⟨e578,hx579,hm⟩:=bd_some hm
 refine⟨_,el_idx (fun _=>rfl) hx579, ?_⟩
 obtain⟨x580,hx581,hm⟩:=bd_some hm
 refine CallY.det (d_R02_rows e578 _ hx581) ?_
 refine⟨([(⟨(W ((W (3*i29))+2)),(W (x559+5)),x561,0,x580,x567,(⟨x569,(W (x571+x573))⟩:TRange)⟩:TSheet)]:List TSheet).flatMap TSheet.c,([(⟨(W ((W (3*i29))+2)),(W (x559+5)),x561,0,x580,x567,(⟨x569,(W (x571+x573))⟩:TRange)⟩:TSheet)]:List TSheet).length,⟨rfl,rfl⟩, ?_⟩
 obtain⟨hg,hm⟩:=gd_some hm
 refine⟨hg,_,_,flat_app (c:=TSheet.c) (l:=(v31:List TSheet)) (r:=(([(⟨(W ((W (3*i29))+2)),(W (x559+5)),x561,0,x580,x567,(⟨x569,(W (x571+x573))⟩:TRange)⟩:TSheet)]:List TSheet):List TSheet)), ?_⟩
 cases hm
 exact⟨(_,((W (i29+1)),v30,(v31++([(⟨(W ((W (3*i29))+2)),(W (x559+5)),x561,0,x580,x567,(⟨x569,(W (x571+x573))⟩:TRange)⟩:TSheet)]:List TSheet)))),SubY.of 5 rfl ⟨tR rfl,tR rfl,tR rfl,tR rfl,tR rfl,trivial⟩ ⟨hR rfl,hR rfl,hR rfl,hW rfl,hW rfl,trivial⟩,hi554,Nat.lt_succ_self _⟩
 obtain⟨x582,hx583,hm⟩:=bd_some hm
 refine CallY.det ((d_R02_rows [] _ hx583).le ⟨leD.nil,trivial⟩) ?_
 refine⟨([(⟨(W ((W (3*i29))+2)),(W (x559+5)),x561,0,x582,x567,(⟨x569,(W (x571+x573))⟩:TRange)⟩:TSheet)]:List TSheet).flatMap TSheet.c,([(⟨(W ((W (3*i29))+2)),(W (x559+5)),x561,0,x582,x567,(⟨x569,(W (x571+x573))⟩:TRange)⟩:TSheet)]:List TSheet).length,⟨rfl,rfl⟩, ?_⟩
 obtain⟨hg,hm⟩:=gd_some hm
 refine⟨hg,_,_,flat_app (c:=TSheet.c) (l:=(v31:List TSheet)) (r:=(([(⟨(W ((W (3*i29))+2)),(W (x559+5)),x561,0,x582,x567,(⟨x569,(W (x571+x573))⟩:TRange)⟩:TSheet)]:List TSheet):List TSheet)), ?_⟩
 cases hm
 exact⟨(_,((W (i29+1)),v30,(v31++([(⟨(W ((W (3*i29))+2)),(W (x559+5)),x561,0,x582,x567,(⟨x569,(W (x571+x573))⟩:TRange)⟩:TSheet)]:List TSheet)))),SubY.of 5 rfl ⟨tR rfl,tR rfl,tR rfl,tR rfl,tR rfl,trivial⟩ ⟨hR rfl,hR rfl,hR rfl,hW rfl,hW rfl,trivial⟩,hi554,Nat.lt_succ_self _⟩
 cases hm
 cases hi554
 have hm:=hk552
 obtain⟨ev754,he,hk755⟩:=bd_some hm
 refine LoopY.ofL (m_R02_Made_L2 r_) (fun(i593,v594)=>⟨[(0, .agg [lD 1 r_.Rows (fun(x:(List (Int×Int×Int×Int)))=> [lD 4 x (fun(x:(Int×Int×Int×Int))=> [DI x.1,DI x.2.1,DI x.2.2.1,DI x.2.2.2])]),lD 4 r_.Sheets (fun(x:(Int×Int×Int×Int))=> [DI x.1,DI x.2.1,DI x.2.2.1,DI x.2.2.2]),lD 3 r_.Roofs (fun(x:(Int×Int×Int))=> [DI x.1,DI x.2.1,DI x.2.2]),lD 4 r_.Sightings (fun(x:(Int×Int×Int×Int))=> [DI x.1,DI x.2.1,DI x.2.2.1,DI x.2.2.2]),DI r_.Off]),(1, .own 0 0),(2, .own 1 0),(3, .own 2 0),(4,DI i29),(8,DI i593),(24,DB (decide (i29<3)))], [(0, .blk [lD 1 r_.Rows (fun(x:(List (Int×Int×Int×Int)))=> [lD 4 x (fun(x:(Int×Int×Int×Int))=> [DI x.1,DI x.2.1,DI x.2.2.1,DI x.2.2.2])]),lD 4 r_.Sheets (fun(x:(Int×Int×Int×Int))=> [DI x.1,DI x.2.1,DI x.2.2.1,DI x.2.2.2]),lD 3 r_.Roofs (fun(x:(Int×Int×Int))=> [DI x.1,DI x.2.1,DI x.2.2]),lD 4 r_.Sightings (fun(x:(Int×Int×Int×Int))=> [DI x.1,DI x.2.1,DI x.2.2.1,DI x.2.2.2]),DI r_.Off] 26),(1, .blk [.v (.slice none 0 0), .v (.slice none 0 0), .v (.slice none 0 0)] 32),(2, .blk [.row 4 9, .row 5 3, .v (.slice none 0 0)] 32),(3,rE 9 v30 TSheet.c 41),(4,rE 9 v31 TSheet.c 41),(5,rE 3 v594 TRoof.c 59)],6⟩) (0, []) (SubY.of 5 rfl ⟨tR rfl,tR rfl,tR rfl,tR rfl,tR rfl,tR rfl,tR rfl,trivial⟩ ⟨hR rfl,hR rfl,hR rfl,hW rfl,hW rfl,⟨rfl,rfl⟩,trivial⟩) he ?_
 rintro fu756 ⟨i593,v594⟩ b hm hi757
 revert hm
 refine VIf.b (fun h758 hm=> ?_) (fun h758 hm=> ?_)
 revert hm
 refine VIf.b (fun h759 hm=> ?_) (fun h759 hm=> ?_)
 obtain⟨e760,hx761,hm⟩:=bd_some hm
 refine⟨_,el_idx (fun _=>rfl) hx761, ?_⟩
 refine⟨by decide, ?_⟩
 obtain⟨x762,hx763,hm⟩:=bd_some hm
 refine CallY.det (d_R02_Mod e760.1 300 _ hx763) ?_
 refine⟨rfl, ?_⟩
 refine⟨by decide, ?_⟩
 refine⟨by decide, ?_⟩
 obtain⟨x764,hx765,hm⟩:=bd_some hm
 refine CallY.det (d_R02_Mod e760.2.1 59 _ hx765) ?_
 obtain⟨x766,hx767,hm⟩:=bd_some hm
 refine CallY.det (d_R02_Mod e760.2.2 30 _ hx767) ?_
 refine⟨([(⟨x762,(W ((W (x762+1))+x764)),x766⟩:TRoof)]:List TRoof).flatMap TRoof.c,([(⟨x762,(W ((W (x762+1))+x764)),x766⟩:TRoof)]:List TRoof).length,⟨rfl,rfl⟩, ?_⟩
 obtain⟨hg,hm⟩:=gd_some hm
 refine⟨hg,_,_,flat_app (c:=TRoof.c) (l:=(v594:List TRoof)) (r:=(([(⟨x762,(W ((W (x762+1))+x764)),x766⟩:TRoof)]:List TRoof):List TRoof)), ?_⟩
 cases hm
 exact⟨(_,((W (i593+1)),(v594++([(⟨x762,(W ((W (x762+1))+x764)),x766⟩:TRoof)]:List TRoof)))),SubY.of 6 rfl ⟨tR rfl,tR rfl,tR rfl,tR rfl,tR rfl,tR rfl,tR rfl,trivial⟩ ⟨hR rfl,hR rfl,hR rfl,hW rfl,hW rfl,hW rfl,trivial⟩,hi757,Nat.lt_succ_self _⟩
 cases hm
 cases hi757
 have hm:=hk755
 obtain⟨ev869,he,hk870⟩:=bd_some hm
 refine LoopY.ofL (m_R02_Made_L3 r_ v31 v594) (fun(i799,v800,v801)=>⟨[(0, .agg [lD 1 r_.Rows (fun(x:(List (Int×Int×Int×Int)))=> [lD 4 x (fun(x:(Int×Int×Int×Int))=> [DI x.1,DI x.2.1,DI x.2.2.1,DI x.2.2.2])]),lD 4 r_.Sheets (fun(x:(Int×Int×Int×Int))=> [DI x.1,DI x.2.1,DI x.2.2.1,DI x.2.2.2]),lD 3 r_.Roofs (fun(x:(Int×Int×Int))=> [DI x.1,DI x.2.1,DI x.2.2]),lD 4 r_.Sightings (fun(x:(Int×Int×Int×Int))=> [DI x.1,DI x.2.1,DI x.2.2.1,DI x.2.2.2]),DI r_.Off]),(1, .own 0 0),(2, .own 1 0),(3, .own 2 0),(4,DI i29),(8,DI i593),(11,DI i799),(24,DB (decide (i29<3))),(94,DB (decide (i593<5)))], [(0, .blk [lD 1 r_.Rows (fun(x:(List (Int×Int×Int×Int)))=> [lD 4 x (fun(x:(Int×Int×Int×Int))=> [DI x.1,DI x.2.1,DI x.2.2.1,DI x.2.2.2])]),lD 4 r_.Sheets (fun(x:(Int×Int×Int×Int))=> [DI x.1,DI x.2.1,DI x.2.2.1,DI x.2.2.2]),lD 3 r_.Roofs (fun(x:(Int×Int×Int))=> [DI x.1,DI x.2.1,DI x.2.2]),lD 4 r_.Sightings (fun(x:(Int×Int×Int×Int))=> [DI x.1,DI x.2.1,DI x.2.2.1,DI x.2.2.2]),DI r_.Off] 26),(1, .blk [.v (.slice none 0 0), .v (.slice none 0 0), .v (.slice none 0 0)] 32),(2, .blk [.row 4 9, .row 5 3, .row 7 6] 32),(3,rE 9 v30 TSheet.c 41),(4,rE 9 v31 TSheet.c 41),(5,rE 3 v594 TRoof.c 59),(6,rE 6 v800 TSighting.c 61),(7,rE 6 v801 TSighting.c 61)],8⟩) (0, [], []) (SubY.of 6 rfl ⟨tR rfl,tR rfl,tR rfl,tR rfl,tR rfl,tR rfl,tR rfl,tR rfl,tR rfl,trivial⟩ ⟨hR rfl,hR rfl,hR rfl,hW rfl,hW rfl,hW rfl,⟨rfl,rfl⟩,⟨rfl,rfl⟩,trivial⟩) he ?_
 rintro fu871 ⟨i799,v800,v801⟩ b hm hi872
 revert hm
 refine VIf.b (fun h873 hm=> ?_) (fun h873 hm=> ?_)
 revert hm
 refine VIf.b (fun h874 hm=> ?_) (fun h874 hm=> ?_)
 obtain⟨e875,hx876,hm⟩:=bd_some hm
 refine⟨_,el_idx (fun _=>rfl) hx876, ?_⟩
 refine⟨rfl, ?_⟩
 refine⟨by decide, ?_⟩
 refine⟨by decide, ?_⟩
 refine⟨by decide, ?_⟩
 obtain⟨x877,hx878,hm⟩:=bd_some hm
 refine CallY.det (d_R02_Mod e875.1 2 _ hx878) ?_
 obtain⟨x879,hx880,hm⟩:=bd_some hm
 refine CallY.det (d_R02_Mod e875.2.1 1440 _ hx880) ?_
 obtain⟨x881,hx882,hm⟩:=bd_some hm
 refine CallY.det (d_R02_Mod e875.2.2.2 20 _ hx882) ?_
 obtain⟨x883,hx884,hm⟩:=bd_some hm
 refine CallOwn.det (d_R02_inForce ((⟨v31,v594,v801⟩:TSky)) (W (x877+5)) 20 _ hx884) ?_
 revert hm
 refine VIf.b (fun h885 hm=> ?_) (fun h885 hm=> ?_)
 cases hm
 exact⟨(_,((W (i799+1)),v800,v801)),SubY.of 8 rfl ⟨tR rfl,tR rfl,tR rfl,tR rfl,tR rfl,tR rfl,tR rfl,tR rfl,tR rfl,trivial⟩ ⟨hR rfl,hR rfl,hR rfl,hW rfl,hW rfl,hW rfl,hW rfl,hW rfl,trivial⟩,hi872,Nat.lt_succ_self _⟩
 refine⟨rfl, ?_⟩
 obtain⟨e886,hx887,hm⟩:=bd_some hm
 refine⟨idx_bd hx887, ?_⟩
 obtain⟨e888,hx889,hm⟩:=bd_some hm
 refine⟨_,el_row (fun _=>rfl) hx889, ?_⟩
 obtain⟨x890,hx891,hm⟩:=bd_some hm
 refine CallY.det (d_R02_True e888 r_.Off _ hx891) ?_
 refine⟨rfl, ?_⟩
 obtain⟨e892,hx893,hm⟩:=bd_some hm
 refine⟨idx_bd hx893, ?_⟩
 obtain⟨e894,hx895,hm⟩:=bd_some hm
 refine⟨_,el_row (fun _=>rfl) hx895, ?_⟩
 obtain⟨x896,hx897,hm⟩:=bd_some hm
 refine CallOwn.det (d_R02_margin e894 v594 x879 _ hx897) ?_
 obtain⟨x898,hx899,hm⟩:=bd_some hm
 refine CallY.det (d_R02_minus x896 _ hx899) ?_
 obtain⟨x900,hx901,hm⟩:=bd_some hm
 refine CallY.det (d_R02_sign x890 x898 _ hx901) ?_
 refine⟨by decide, ?_⟩
 obtain⟨x902,hx903,hm⟩:=bd_some hm
 refine CallY.det (d_R02_Mod e875.2.2.1 9 _ hx903) ?_
 revert hm
 refine VIf.b (fun h904 hm=> ?_) (fun h904 hm=> ?_)
 refine⟨([(⟨(W ((W (5*i799))+40)),(W (x877+5)),x879,(!(decide (x900>0))),x881,0⟩:TSighting)]:List TSighting).flatMap TSighting.c,([(⟨(W ((W (5*i799))+40)),(W (x877+5)),x879,(!(decide (x900>0))),x881,0⟩:TSighting)]:List TSighting).length,⟨rfl,rfl⟩, ?_⟩
 obtain⟨hg,hm⟩:=gd_some hm
 refine⟨hg,_,_,flat_app (c:=TSighting.c) (l:=(v801:List TSighting)) (r:=(([(⟨(W ((W (5*i799))+40)),(W (x877+5)),x879,(!(decide (x900>0))),x881,0⟩:TSighting)]:List TSighting):List TSighting)), ?_⟩
 cases hm
 exact⟨(_,((W (i799+1)),v800,(v801++([(⟨(W ((W (5*i799))+40)),(W (x877+5)),x879,(!(decide (x900>0))),x881,0⟩:TSighting)]:List TSighting)))),SubY.of 8 rfl ⟨tR rfl,tR rfl,tR rfl,tR rfl,tR rfl,tR rfl,tR rfl,tR rfl,tR rfl,trivial⟩ ⟨hR rfl,hR rfl,hR rfl,hW rfl,hW rfl,hW rfl,hW rfl,hW rfl,trivial⟩,hi872,Nat.lt_succ_self _⟩
 refine⟨([(⟨(W ((W (5*i799))+40)),(W (x877+5)),x879,(decide (x900>0)),x881,0⟩:TSighting)]:List TSighting).flatMap TSighting.c,([(⟨(W ((W (5*i799))+40)),(W (x877+5)),x879,(decide (x900>0)),x881,0⟩:TSighting)]:List TSighting).length,⟨rfl,rfl⟩, ?_⟩
 obtain⟨hg,hm⟩:=gd_some hm
 refine⟨hg,_,_,flat_app (c:=TSighting.c) (l:=(v801:List TSighting)) (r:=(([(⟨(W ((W (5*i799))+40)),(W (x877+5)),x879,(decide (x900>0)),x881,0⟩:TSighting)]:List TSighting):List TSighting)), ?_⟩
 cases hm
 exact⟨(_,((W (i799+1)),v800,(v801++([(⟨(W ((W (5*i799))+40)),(W (x877+5)),x879,(decide (x900>0)),x881,0⟩:TSighting)]:List TSighting)))),SubY.of 8 rfl ⟨tR rfl,tR rfl,tR rfl,tR rfl,tR rfl,tR rfl,tR rfl,tR rfl,tR rfl,trivial⟩ ⟨hR rfl,hR rfl,hR rfl,hW rfl,hW rfl,hW rfl,hW rfl,hW rfl,trivial⟩,hi872,Nat.lt_succ_self _⟩
 cases hm
 cases hi872
 have hm:=hk870
 cases hm
 exact RetY.le (leD.refl _)
 cases hm
 cases hi872
 have hm:=hk870
 cases hm
 exact RetY.le (leD.refl _)
 cases hm
 cases hi757
 have hm:=hk755
 obtain⟨ev1006,he,hk1007⟩:=bd_some hm
 refine LoopY.ofL (m_R02_Made_L3 r_ v31 v594) (fun(i936,v937,v938)=>⟨[(0, .agg [lD 1 r_.Rows (fun(x:(List (Int×Int×Int×Int)))=> [lD 4 x (fun(x:(Int×Int×Int×Int))=> [DI x.1,DI x.2.1,DI x.2.2.1,DI x.2.2.2])]),lD 4 r_.Sheets (fun(x:(Int×Int×Int×Int))=> [DI x.1,DI x.2.1,DI x.2.2.1,DI x.2.2.2]),lD 3 r_.Roofs (fun(x:(Int×Int×Int))=> [DI x.1,DI x.2.1,DI x.2.2]),lD 4 r_.Sightings (fun(x:(Int×Int×Int×Int))=> [DI x.1,DI x.2.1,DI x.2.2.1,DI x.2.2.2]),DI r_.Off]),(1, .own 0 0),(2, .own 1 0),(3, .own 2 0),(4,DI i29),(8,DI i593),(11,DI i936),(24,DB (decide (i29<3))),(94,DB false)], [(0, .blk [lD 1 r_.Rows (fun(x:(List (Int×Int×Int×Int)))=> [lD 4 x (fun(x:(Int×Int×Int×Int))=> [DI x.1,DI x.2.1,DI x.2.2.1,DI x.2.2.2])]),lD 4 r_.Sheets (fun(x:(Int×Int×Int×Int))=> [DI x.1,DI x.2.1,DI x.2.2.1,DI x.2.2.2]),lD 3 r_.Roofs (fun(x:(Int×Int×Int))=> [DI x.1,DI x.2.1,DI x.2.2]),lD 4 r_.Sightings (fun(x:(Int×Int×Int×Int))=> [DI x.1,DI x.2.1,DI x.2.2.1,DI x.2.2.2]),DI r_.Off] 26),(1, .blk [.v (.slice none 0 0), .v (.slice none 0 0), .v (.slice none 0 0)] 32),(2, .blk [.row 4 9, .row 5 3, .row 7 6] 32),(3,rE 9 v30 TSheet.c 41),(4,rE 9 v31 TSheet.c 41),(5,rE 3 v594 TRoof.c 59),(6,rE 6 v937 TSighting.c 61),(7,rE 6 v938 TSighting.c 61)],8⟩) (0, [], []) (SubY.of 6 rfl ⟨tR rfl,tR rfl,tR rfl,tR rfl,tR rfl,tR rfl,tR rfl,tR rfl,tR rfl,trivial⟩ ⟨hR rfl,hR rfl,hR rfl,hW rfl,hW rfl,hW rfl,⟨rfl,rfl⟩,⟨rfl,rfl⟩,trivial⟩) he ?_
 rintro fu1008 ⟨i936,v937,v938⟩ b hm hi1009
 revert hm
 refine VIf.b (fun h1010 hm=> ?_) (fun h1010 hm=> ?_)
 revert hm
 refine VIf.b (fun h1011 hm=> ?_) (fun h1011 hm=> ?_)
 obtain⟨e1012,hx1013,hm⟩:=bd_some hm
 refine⟨_,el_idx (fun _=>rfl) hx1013, ?_⟩
 refine⟨rfl, ?_⟩
 refine⟨by decide, ?_⟩
 refine⟨by decide, ?_⟩
 refine⟨by decide, ?_⟩
 obtain⟨x1014,hx1015,hm⟩:=bd_some hm
 refine CallY.det (d_R02_Mod e1012.1 2 _ hx1015) ?_
 obtain⟨x1016,hx1017,hm⟩:=bd_some hm
 refine CallY.det (d_R02_Mod e1012.2.1 1440 _ hx1017) ?_
 obtain⟨x1018,hx1019,hm⟩:=bd_some hm
 refine CallY.det (d_R02_Mod e1012.2.2.2 20 _ hx1019) ?_
 obtain⟨x1020,hx1021,hm⟩:=bd_some hm
 refine CallOwn.det (d_R02_inForce ((⟨v31,v594,v938⟩:TSky)) (W (x1014+5)) 20 _ hx1021) ?_
 revert hm
 refine VIf.b (fun h1022 hm=> ?_) (fun h1022 hm=> ?_)
 cases hm
 exact⟨(_,((W (i936+1)),v937,v938)),SubY.of 8 rfl ⟨tR rfl,tR rfl,tR rfl,tR rfl,tR rfl,tR rfl,tR rfl,tR rfl,tR rfl,trivial⟩ ⟨hR rfl,hR rfl,hR rfl,hW rfl,hW rfl,hW rfl,hW rfl,hW rfl,trivial⟩,hi1009,Nat.lt_succ_self _⟩
 refine⟨rfl, ?_⟩
 obtain⟨e1023,hx1024,hm⟩:=bd_some hm
 refine⟨idx_bd hx1024, ?_⟩
 obtain⟨e1025,hx1026,hm⟩:=bd_some hm
 refine⟨_,el_row (fun _=>rfl) hx1026, ?_⟩
 obtain⟨x1027,hx1028,hm⟩:=bd_some hm
 refine CallY.det (d_R02_True e1025 r_.Off _ hx1028) ?_
 refine⟨rfl, ?_⟩
 obtain⟨e1029,hx1030,hm⟩:=bd_some hm
 refine⟨idx_bd hx1030, ?_⟩
 obtain⟨e1031,hx1032,hm⟩:=bd_some hm
 refine⟨_,el_row (fun _=>rfl) hx1032, ?_⟩
 obtain⟨x1033,hx1034,hm⟩:=bd_some hm
 refine CallOwn.det (d_R02_margin e1031 v594 x1016 _ hx1034) ?_
 obtain⟨x1035,hx1036,hm⟩:=bd_some hm
 refine CallY.det (d_R02_minus x1033 _ hx1036) ?_
 obtain⟨x1037,hx1038,hm⟩:=bd_some hm
 refine CallY.det (d_R02_sign x1027 x1035 _ hx1038) ?_
 refine⟨by decide, ?_⟩
 obtain⟨x1039,hx1040,hm⟩:=bd_some hm
 refine CallY.det (d_R02_Mod e1012.2.2.1 9 _ hx1040) ?_
 revert hm
 refine VIf.b (fun h1041 hm=> ?_) (fun h1041 hm=> ?_)
 refine⟨([(⟨(W ((W (5*i936))+40)),(W (x1014+5)),x1016,(!(decide (x1037>0))),x1018,0⟩:TSighting)]:List TSighting).flatMap TSighting.c,([(⟨(W ((W (5*i936))+40)),(W (x1014+5)),x1016,(!(decide (x1037>0))),x1018,0⟩:TSighting)]:List TSighting).length,⟨rfl,rfl⟩, ?_⟩
 obtain⟨hg,hm⟩:=gd_some hm
 refine⟨hg,_,_,flat_app (c:=TSighting.c) (l:=(v938:List TSighting)) (r:=(([(⟨(W ((W (5*i936))+40)),(W (x1014+5)),x1016,(!(decide (x1037>0))),x1018,0⟩:TSighting)]:List TSighting):List TSighting)), ?_⟩
 cases hm
 exact⟨(_,((W (i936+1)),v937,(v938++([(⟨(W ((W (5*i936))+40)),(W (x1014+5)),x1016,(!(decide (x1037>0))),x1018,0⟩:TSighting)]:List TSighting)))),SubY.of 8 rfl ⟨tR rfl,tR rfl,tR rfl,tR rfl,tR rfl,tR rfl,tR rfl,tR rfl,tR rfl,trivial⟩ ⟨hR rfl,hR rfl,hR rfl,hW rfl,hW rfl,hW rfl,hW rfl,hW rfl,trivial⟩,hi1009,Nat.lt_succ_self _⟩
 refine⟨([(⟨(W ((W (5*i936))+40)),(W (x1014+5)),x1016,(decide (x1037>0)),x1018,0⟩:TSighting)]:List TSighting).flatMap TSighting.c,([(⟨(W ((W (5*i936))+40)),(W (x1014+5)),x1016,(decide (x1037>0)),x1018,0⟩:TSighting)]:List TSighting).length,⟨rfl,rfl⟩, ?_⟩
 obtain⟨hg,hm⟩:=gd_some hm
 refine⟨hg,_,_,flat_app (c:=TSighting.c) (l:=(v938:List TSighting)) (r:=(([(⟨(W ((W (5*i936))+40)),(W (x1014+5)),x1016,(decide (x1037>0)),x1018,0⟩:TSighting)]:List TSighting):List TSighting)), ?_⟩
 cases hm
 exact⟨(_,((W (i936+1)),v937,(v938++([(⟨(W ((W (5*i936))+40)),(W (x1014+5)),x1016,(decide (x1037>0)),x1018,0⟩:TSighting)]:List TSighting)))),SubY.of 8 rfl ⟨tR rfl,tR rfl,tR rfl,tR rfl,tR rfl,tR rfl,tR rfl,tR rfl,tR rfl,trivial⟩ ⟨hR rfl,hR rfl,hR rfl,hW rfl,hW rfl,hW rfl,hW rfl,hW rfl,trivial⟩,hi1009,Nat.lt_succ_self _⟩
 cases hm
 cases hi1009
 have hm:=hk1007
 cases hm
 exact RetY.le (leD.refl _)
 cases hm
 cases hi1009
 have hm:=hk1007
 cases hm
 exact RetY.le (leD.refl _)
 cases hm
 cases hi554
 have hm:=hk552
 obtain⟨ev1212,he,hk1213⟩:=bd_some hm
 refine LoopY.ofL (m_R02_Made_L2 r_) (fun(i1051,v1052)=>⟨[(0, .agg [lD 1 r_.Rows (fun(x:(List (Int×Int×Int×Int)))=> [lD 4 x (fun(x:(Int×Int×Int×Int))=> [DI x.1,DI x.2.1,DI x.2.2.1,DI x.2.2.2])]),lD 4 r_.Sheets (fun(x:(Int×Int×Int×Int))=> [DI x.1,DI x.2.1,DI x.2.2.1,DI x.2.2.2]),lD 3 r_.Roofs (fun(x:(Int×Int×Int))=> [DI x.1,DI x.2.1,DI x.2.2]),lD 4 r_.Sightings (fun(x:(Int×Int×Int×Int))=> [DI x.1,DI x.2.1,DI x.2.2.1,DI x.2.2.2]),DI r_.Off]),(1, .own 0 0),(2, .own 1 0),(3, .own 2 0),(4,DI i29),(8,DI i1051),(24,DB false)], [(0, .blk [lD 1 r_.Rows (fun(x:(List (Int×Int×Int×Int)))=> [lD 4 x (fun(x:(Int×Int×Int×Int))=> [DI x.1,DI x.2.1,DI x.2.2.1,DI x.2.2.2])]),lD 4 r_.Sheets (fun(x:(Int×Int×Int×Int))=> [DI x.1,DI x.2.1,DI x.2.2.1,DI x.2.2.2]),lD 3 r_.Roofs (fun(x:(Int×Int×Int))=> [DI x.1,DI x.2.1,DI x.2.2]),lD 4 r_.Sightings (fun(x:(Int×Int×Int×Int))=> [DI x.1,DI x.2.1,DI x.2.2.1,DI x.2.2.2]),DI r_.Off] 26),(1, .blk [.v (.slice none 0 0), .v (.slice none 0 0), .v (.slice none 0 0)] 32),(2, .blk [.row 4 9, .row 5 3, .v (.slice none 0 0)] 32),(3,rE 9 v30 TSheet.c 41),(4,rE 9 v31 TSheet.c 41),(5,rE 3 v1052 TRoof.c 59)],6⟩) (0, []) (SubY.of 5 rfl ⟨tR rfl,tR rfl,tR rfl,tR rfl,tR rfl,tR rfl,tR rfl,trivial⟩ ⟨hR rfl,hR rfl,hR rfl,hW rfl,hW rfl,⟨rfl,rfl⟩,trivial⟩) he ?_
 rintro fu1214 ⟨i1051,v1052⟩ b hm hi1215
 revert hm
 refine VIf.b (fun h1216 hm=> ?_) (fun h1216 hm=> ?_)
 revert hm
 refine VIf.b (fun h1217 hm=> ?_) (fun h1217 hm=> ?_)
 obtain⟨e1218,hx1219,hm⟩:=bd_some hm
 refine⟨_,el_idx (fun _=>rfl) hx1219, ?_⟩
 refine⟨by decide, ?_⟩
 obtain⟨x1220,hx1221,hm⟩:=bd_some hm
 refine CallY.det (d_R02_Mod e1218.1 300 _ hx1221) ?_
 refine⟨rfl, ?_⟩
 refine⟨by decide, ?_⟩
 refine⟨by decide, ?_⟩
 obtain⟨x1222,hx1223,hm⟩:=bd_some hm
 refine CallY.det (d_R02_Mod e1218.2.1 59 _ hx1223) ?_
 obtain⟨x1224,hx1225,hm⟩:=bd_some hm
 refine CallY.det (d_R02_Mod e1218.2.2 30 _ hx1225) ?_
 refine⟨([(⟨x1220,(W ((W (x1220+1))+x1222)),x1224⟩:TRoof)]:List TRoof).flatMap TRoof.c,([(⟨x1220,(W ((W (x1220+1))+x1222)),x1224⟩:TRoof)]:List TRoof).length,⟨rfl,rfl⟩, ?_⟩
 obtain⟨hg,hm⟩:=gd_some hm
 refine⟨hg,_,_,flat_app (c:=TRoof.c) (l:=(v1052:List TRoof)) (r:=(([(⟨x1220,(W ((W (x1220+1))+x1222)),x1224⟩:TRoof)]:List TRoof):List TRoof)), ?_⟩
 cases hm
 exact⟨(_,((W (i1051+1)),(v1052++([(⟨x1220,(W ((W (x1220+1))+x1222)),x1224⟩:TRoof)]:List TRoof)))),SubY.of 6 rfl ⟨tR rfl,tR rfl,tR rfl,tR rfl,tR rfl,tR rfl,tR rfl,trivial⟩ ⟨hR rfl,hR rfl,hR rfl,hW rfl,hW rfl,hW rfl,trivial⟩,hi1215,Nat.lt_succ_self _⟩
 cases hm
 cases hi1215
 have hm:=hk1213
 obtain⟨ev1327,he,hk1328⟩:=bd_some hm
 refine LoopY.ofL (m_R02_Made_L3 r_ v31 v1052) (fun(i1257,v1258,v1259)=>⟨[(0, .agg [lD 1 r_.Rows (fun(x:(List (Int×Int×Int×Int)))=> [lD 4 x (fun(x:(Int×Int×Int×Int))=> [DI x.1,DI x.2.1,DI x.2.2.1,DI x.2.2.2])]),lD 4 r_.Sheets (fun(x:(Int×Int×Int×Int))=> [DI x.1,DI x.2.1,DI x.2.2.1,DI x.2.2.2]),lD 3 r_.Roofs (fun(x:(Int×Int×Int))=> [DI x.1,DI x.2.1,DI x.2.2]),lD 4 r_.Sightings (fun(x:(Int×Int×Int×Int))=> [DI x.1,DI x.2.1,DI x.2.2.1,DI x.2.2.2]),DI r_.Off]),(1, .own 0 0),(2, .own 1 0),(3, .own 2 0),(4,DI i29),(8,DI i1051),(11,DI i1257),(24,DB false),(94,DB (decide (i1051<5)))], [(0, .blk [lD 1 r_.Rows (fun(x:(List (Int×Int×Int×Int)))=> [lD 4 x (fun(x:(Int×Int×Int×Int))=> [DI x.1,DI x.2.1,DI x.2.2.1,DI x.2.2.2])]),lD 4 r_.Sheets (fun(x:(Int×Int×Int×Int))=> [DI x.1,DI x.2.1,DI x.2.2.1,DI x.2.2.2]),lD 3 r_.Roofs (fun(x:(Int×Int×Int))=> [DI x.1,DI x.2.1,DI x.2.2]),lD 4 r_.Sightings (fun(x:(Int×Int×Int×Int))=> [DI x.1,DI x.2.1,DI x.2.2.1,DI x.2.2.2]),DI r_.Off] 26),(1, .blk [.v (.slice none 0 0), .v (.slice none 0 0), .v (.slice none 0 0)] 32),(2, .blk [.row 4 9, .row 5 3, .row 7 6] 32),(3,rE 9 v30 TSheet.c 41),(4,rE 9 v31 TSheet.c 41),(5,rE 3 v1052 TRoof.c 59),(6,rE 6 v1258 TSighting.c 61),(7,rE 6 v1259 TSighting.c 61)],8⟩) (0, [], []) (SubY.of 6 rfl ⟨tR rfl,tR rfl,tR rfl,tR rfl,tR rfl,tR rfl,tR rfl,tR rfl,tR rfl,trivial⟩ ⟨hR rfl,hR rfl,hR rfl,hW rfl,hW rfl,hW rfl,⟨rfl,rfl⟩,⟨rfl,rfl⟩,trivial⟩) he ?_
 rintro fu1329 ⟨i1257,v1258,v1259⟩ b hm hi1330
 revert hm
 refine VIf.b (fun h1331 hm=> ?_) (fun h1331 hm=> ?_)
 revert hm
 refine VIf.b (fun h1332 hm=> ?_) (fun h1332 hm=> ?_)
 obtain⟨e1333,hx1334,hm⟩:=bd_some hm
 refine⟨_,el_idx (fun _=>rfl) hx1334, ?_⟩
 refine⟨rfl, ?_⟩
 refine⟨by decide, ?_⟩
 refine⟨by decide, ?_⟩
 refine⟨by decide, ?_⟩
 obtain⟨x1335,hx1336,hm⟩:=bd_some hm
 refine CallY.det (d_R02_Mod e1333.1 2 _ hx1336) ?_
 obtain⟨x1337,hx1338,hm⟩:=bd_some hm
 refine CallY.det (d_R02_Mod e1333.2.1 1440 _ hx1338) ?_
 obtain⟨x1339,hx1340,hm⟩:=bd_some hm
 refine CallY.det (d_R02_Mod e1333.2.2.2 20 _ hx1340) ?_
 obtain⟨x1341,hx1342,hm⟩:=bd_some hm
 refine CallOwn.det (d_R02_inForce ((⟨v31,v1052,v1259⟩:TSky)) (W (x1335+5)) 20 _ hx1342) ?_
 revert hm
 refine VIf.b (fun h1343 hm=> ?_) (fun h1343 hm=> ?_)
 cases hm
 exact⟨(_,((W (i1257+1)),v1258,v1259)),SubY.of 8 rfl ⟨tR rfl,tR rfl,tR rfl,tR rfl,tR rfl,tR rfl,tR rfl,tR rfl,tR rfl,trivial⟩ ⟨hR rfl,hR rfl,hR rfl,hW rfl,hW rfl,hW rfl,hW rfl,hW rfl,trivial⟩,hi1330,Nat.lt_succ_self _⟩
 refine⟨rfl, ?_⟩
 obtain⟨e1344,hx1345,hm⟩:=bd_some hm
 refine⟨idx_bd hx1345, ?_⟩
 obtain⟨e1346,hx1347,hm⟩:=bd_some hm
 refine⟨_,el_row (fun _=>rfl) hx1347, ?_⟩
 obtain⟨x1348,hx1349,hm⟩:=bd_some hm
 refine CallY.det (d_R02_True e1346 r_.Off _ hx1349) ?_
 refine⟨rfl, ?_⟩
 obtain⟨e1350,hx1351,hm⟩:=bd_some hm
 refine⟨idx_bd hx1351, ?_⟩
 obtain⟨e1352,hx1353,hm⟩:=bd_some hm
 refine⟨_,el_row (fun _=>rfl) hx1353, ?_⟩
 obtain⟨x1354,hx1355,hm⟩:=bd_some hm
 refine CallOwn.det (d_R02_margin e1352 v1052 x1337 _ hx1355) ?_
 obtain⟨x1356,hx1357,hm⟩:=bd_some hm
 refine CallY.det (d_R02_minus x1354 _ hx1357) ?_
 obtain⟨x1358,hx1359,hm⟩:=bd_some hm
 refine CallY.det (d_R02_sign x1348 x1356 _ hx1359) ?_
 refine⟨by decide, ?_⟩
 obtain⟨x1360,hx1361,hm⟩:=bd_some hm
 refine CallY.det (d_R02_Mod e1333.2.2.1 9 _ hx1361) ?_
 revert hm
 refine VIf.b (fun h1362 hm=> ?_) (fun h1362 hm=> ?_)
 refine⟨([(⟨(W ((W (5*i1257))+40)),(W (x1335+5)),x1337,(!(decide (x1358>0))),x1339,0⟩:TSighting)]:List TSighting).flatMap TSighting.c,([(⟨(W ((W (5*i1257))+40)),(W (x1335+5)),x1337,(!(decide (x1358>0))),x1339,0⟩:TSighting)]:List TSighting).length,⟨rfl,rfl⟩, ?_⟩
 obtain⟨hg,hm⟩:=gd_some hm
 refine⟨hg,_,_,flat_app (c:=TSighting.c) (l:=(v1259:List TSighting)) (r:=(([(⟨(W ((W (5*i1257))+40)),(W (x1335+5)),x1337,(!(decide (x1358>0))),x1339,0⟩:TSighting)]:List TSighting):List TSighting)), ?_⟩
 cases hm
 exact⟨(_,((W (i1257+1)),v1258,(v1259++([(⟨(W ((W (5*i1257))+40)),(W (x1335+5)),x1337,(!(decide (x1358>0))),x1339,0⟩:TSighting)]:List TSighting)))),SubY.of 8 rfl ⟨tR rfl,tR rfl,tR rfl,tR rfl,tR rfl,tR rfl,tR rfl,tR rfl,tR rfl,trivial⟩ ⟨hR rfl,hR rfl,hR rfl,hW rfl,hW rfl,hW rfl,hW rfl,hW rfl,trivial⟩,hi1330,Nat.lt_succ_self _⟩
 refine⟨([(⟨(W ((W (5*i1257))+40)),(W (x1335+5)),x1337,(decide (x1358>0)),x1339,0⟩:TSighting)]:List TSighting).flatMap TSighting.c,([(⟨(W ((W (5*i1257))+40)),(W (x1335+5)),x1337,(decide (x1358>0)),x1339,0⟩:TSighting)]:List TSighting).length,⟨rfl,rfl⟩, ?_⟩
 obtain⟨hg,hm⟩:=gd_some hm
 refine⟨hg,_,_,flat_app (c:=TSighting.c) (l:=(v1259:List TSighting)) (r:=(([(⟨(W ((W (5*i1257))+40)),(W (x1335+5)),x1337,(decide (x1358>0)),x1339,0⟩:TSighting)]:List TSighting):List TSighting)), ?_⟩
 cases hm
 exact⟨(_,((W (i1257+1)),v1258,(v1259++([(⟨(W ((W (5*i1257))+40)),(W (x1335+5)),x1337,(decide (x1358>0)),x1339,0⟩:TSighting)]:List TSighting)))),SubY.of 8 rfl ⟨tR rfl,tR rfl,tR rfl,tR rfl,tR rfl,tR rfl,tR rfl,tR rfl,tR rfl,trivial⟩ ⟨hR rfl,hR rfl,hR rfl,hW rfl,hW rfl,hW rfl,hW rfl,hW rfl,trivial⟩,hi1330,Nat.lt_succ_self _⟩
 cases hm
 cases hi1330
 have hm:=hk1328
 cases hm
 exact RetY.le (leD.refl _)
 cases hm
 cases hi1330
 have hm:=hk1328
 cases hm
 exact RetY.le (leD.refl _)
 cases hm
 cases hi1215
 have hm:=hk1213
 obtain⟨ev1464,he,hk1465⟩:=bd_some hm
 refine LoopY.ofL (m_R02_Made_L3 r_ v31 v1052) (fun(i1394,v1395,v1396)=>⟨[(0, .agg [lD 1 r_.Rows (fun(x:(List (Int×Int×Int×Int)))=> [lD 4 x (fun(x:(Int×Int×Int×Int))=> [DI x.1,DI x.2.1,DI x.2.2.1,DI x.2.2.2])]),lD 4 r_.Sheets (fun(x:(Int×Int×Int×Int))=> [DI x.1,DI x.2.1,DI x.2.2.1,DI x.2.2.2]),lD 3 r_.Roofs (fun(x:(Int×Int×Int))=> [DI x.1,DI x.2.1,DI x.2.2]),lD 4 r_.Sightings (fun(x:(Int×Int×Int×Int))=> [DI x.1,DI x.2.1,DI x.2.2.1,DI x.2.2.2]),DI r_.Off]),(1, .own 0 0),(2, .own 1 0),(3, .own 2 0),(4,DI i29),(8,DI i1051),(11,DI i1394),(24,DB false),(94,DB false)], [(0, .blk [lD 1 r_.Rows (fun(x:(List (Int×Int×Int×Int)))=> [lD 4 x (fun(x:(Int×Int×Int×Int))=> [DI x.1,DI x.2.1,DI x.2.2.1,DI x.2.2.2])]),lD 4 r_.Sheets (fun(x:(Int×Int×Int×Int))=> [DI x.1,DI x.2.1,DI x.2.2.1,DI x.2.2.2]),lD 3 r_.Roofs (fun(x:(Int×Int×Int))=> [DI x.1,DI x.2.1,DI x.2.2]),lD 4 r_.Sightings (fun(x:(Int×Int×Int×Int))=> [DI x.1,DI x.2.1,DI x.2.2.1,DI x.2.2.2]),DI r_.Off] 26),(1, .blk [.v (.slice none 0 0), .v (.slice none 0 0), .v (.slice none 0 0)] 32),(2, .blk [.row 4 9, .row 5 3, .row 7 6] 32),(3,rE 9 v30 TSheet.c 41),(4,rE 9 v31 TSheet.c 41),(5,rE 3 v1052 TRoof.c 59),(6,rE 6 v1395 TSighting.c 61),(7,rE 6 v1396 TSighting.c 61)],8⟩) (0, [], []) (SubY.of 6 rfl ⟨tR rfl,tR rfl,tR rfl,tR rfl,tR rfl,tR rfl,tR rfl,tR rfl,tR rfl,trivial⟩ ⟨hR rfl,hR rfl,hR rfl,hW rfl,hW rfl,hW rfl,⟨rfl,rfl⟩,⟨rfl,rfl⟩,trivial⟩) he ?_
 rintro fu1466 ⟨i1394,v1395,v1396⟩ b hm hi1467
 revert hm
 refine VIf.b (fun h1468 hm=> ?_) (fun h1468 hm=> ?_)
 revert hm
 refine VIf.b (fun h1469 hm=> ?_) (fun h1469 hm=> ?_)
 obtain⟨e1470,hx1471,hm⟩:=bd_some hm
 refine⟨_,el_idx (fun _=>rfl) hx1471, ?_⟩
 refine⟨rfl, ?_⟩
 refine⟨by decide, ?_⟩
 refine⟨by decide, ?_⟩
 refine⟨by decide, ?_⟩
 obtain⟨x1472,hx1473,hm⟩:=bd_some hm
 refine CallY.det (d_R02_Mod e1470.1 2 _ hx1473) ?_
 obtain⟨x1474,hx1475,hm⟩:=bd_some hm
 refine CallY.det (d_R02_Mod e1470.2.1 1440 _ hx1475) ?_
 obtain⟨x1476,hx1477,hm⟩:=bd_some hm
 refine CallY.det (d_R02_Mod e1470.2.2.2 20 _ hx1477) ?_
 obtain⟨x1478,hx1479,hm⟩:=bd_some hm
 refine CallOwn.det (d_R02_inForce ((⟨v31,v1052,v1396⟩:TSky)) (W (x1472+5)) 20 _ hx1479) ?_
 revert hm
 refine VIf.b (fun h1480 hm=> ?_) (fun h1480 hm=> ?_)
 cases hm
 exact⟨(_,((W (i1394+1)),v1395,v1396)),SubY.of 8 rfl ⟨tR rfl,tR rfl,tR rfl,tR rfl,tR rfl,tR rfl,tR rfl,tR rfl,tR rfl,trivial⟩ ⟨hR rfl,hR rfl,hR rfl,hW rfl,hW rfl,hW rfl,hW rfl,hW rfl,trivial⟩,hi1467,Nat.lt_succ_self _⟩
 refine⟨rfl, ?_⟩
 obtain⟨e1481,hx1482,hm⟩:=bd_some hm
 refine⟨idx_bd hx1482, ?_⟩
 obtain⟨e1483,hx1484,hm⟩:=bd_some hm
 refine⟨_,el_row (fun _=>rfl) hx1484, ?_⟩
 obtain⟨x1485,hx1486,hm⟩:=bd_some hm
 refine CallY.det (d_R02_True e1483 r_.Off _ hx1486) ?_
 refine⟨rfl, ?_⟩
 obtain⟨e1487,hx1488,hm⟩:=bd_some hm
 refine⟨idx_bd hx1488, ?_⟩
 obtain⟨e1489,hx1490,hm⟩:=bd_some hm
 refine⟨_,el_row (fun _=>rfl) hx1490, ?_⟩
 obtain⟨x1491,hx1492,hm⟩:=bd_some hm
 refine CallOwn.det (d_R02_margin e1489 v1052 x1474 _ hx1492) ?_
 obtain⟨x1493,hx1494,hm⟩:=bd_some hm
 refine CallY.det (d_R02_minus x1491 _ hx1494) ?_
 obtain⟨x1495,hx1496,hm⟩:=bd_some hm
 refine CallY.det (d_R02_sign x1485 x1493 _ hx1496) ?_
 refine⟨by decide, ?_⟩
 obtain⟨x1497,hx1498,hm⟩:=bd_some hm
 refine CallY.det (d_R02_Mod e1470.2.2.1 9 _ hx1498) ?_
 revert hm
 refine VIf.b (fun h1499 hm=> ?_) (fun h1499 hm=> ?_)
 refine⟨([(⟨(W ((W (5*i1394))+40)),(W (x1472+5)),x1474,(!(decide (x1495>0))),x1476,0⟩:TSighting)]:List TSighting).flatMap TSighting.c,([(⟨(W ((W (5*i1394))+40)),(W (x1472+5)),x1474,(!(decide (x1495>0))),x1476,0⟩:TSighting)]:List TSighting).length,⟨rfl,rfl⟩, ?_⟩
 obtain⟨hg,hm⟩:=gd_some hm
 refine⟨hg,_,_,flat_app (c:=TSighting.c) (l:=(v1396:List TSighting)) (r:=(([(⟨(W ((W (5*i1394))+40)),(W (x1472+5)),x1474,(!(decide (x1495>0))),x1476,0⟩:TSighting)]:List TSighting):List TSighting)), ?_⟩
 cases hm
 exact⟨(_,((W (i1394+1)),v1395,(v1396++([(⟨(W ((W (5*i1394))+40)),(W (x1472+5)),x1474,(!(decide (x1495>0))),x1476,0⟩:TSighting)]:List TSighting)))),SubY.of 8 rfl ⟨tR rfl,tR rfl,tR rfl,tR rfl,tR rfl,tR rfl,tR rfl,tR rfl,tR rfl,trivial⟩ ⟨hR rfl,hR rfl,hR rfl,hW rfl,hW rfl,hW rfl,hW rfl,hW rfl,trivial⟩,hi1467,Nat.lt_succ_self _⟩
 refine⟨([(⟨(W ((W (5*i1394))+40)),(W (x1472+5)),x1474,(decide (x1495>0)),x1476,0⟩:TSighting)]:List TSighting).flatMap TSighting.c,([(⟨(W ((W (5*i1394))+40)),(W (x1472+5)),x1474,(decide (x1495>0)),x1476,0⟩:TSighting)]:List TSighting).length,⟨rfl,rfl⟩, ?_⟩
 obtain⟨hg,hm⟩:=gd_some hm
 refine⟨hg,_,_,flat_app (c:=TSighting.c) (l:=(v1396:List TSighting)) (r:=(([(⟨(W ((W (5*i1394))+40)),(W (x1472+5)),x1474,(decide (x1495>0)),x1476,0⟩:TSighting)]:List TSighting):List TSighting)), ?_⟩
 cases hm
 exact⟨(_,((W (i1394+1)),v1395,(v1396++([(⟨(W ((W (5*i1394))+40)),(W (x1472+5)),x1474,(decide (x1495>0)),x1476,0⟩:TSighting)]:List TSighting)))),SubY.of 8 rfl ⟨tR rfl,tR rfl,tR rfl,tR rfl,tR rfl,tR rfl,tR rfl,tR rfl,tR rfl,trivial⟩ ⟨hR rfl,hR rfl,hR rfl,hW rfl,hW rfl,hW rfl,hW rfl,hW rfl,trivial⟩,hi1467,Nat.lt_succ_self _⟩
 cases hm
 cases hi1467
 have hm:=hk1465
 cases hm
 exact RetY.le (leD.refl _)
 cases hm
 cases hi1467
 have hm:=hk1465
 cases hm
 exact RetY.le (leD.refl _)
def m_moon_within (n:Int) (lo:Int) (hi:Int):Option Bool:=
 if(decide (lo≤n))=true then
  some (decide (n≤hi))
 else
  some false
theorem d_moon_within (n:Int) (lo:Int) (hi:Int) (r:Bool) (hm:m_moon_within n lo hi=some r):Does Try.prog 55 [DI n,DI lo,DI hi] (fun x=>x=DB r):=by
 refine does_zy (X:=⟨Try.prog,tt,Try.f55.ntmps, [], [], [], [], [], []⟩) pok _ Try.func55 rfl rfl (Nat.le_of_ble_eq_true rfl) ?_
 revert hm
 refine VIf.b (fun h1 hm=> ?_) (fun h1 hm=> ?_)
 cases hm
 exact RetY.le (leD.refl _)
 cases hm
 exact RetY.le (leD.refl _)
def m_moon_isNight (n:Int):Option Bool:=
 Option.bind (m_moon_within n 0 100000) fun x1=>
 some x1
theorem d_moon_isNight (n:Int) (r:Bool) (hm:m_moon_isNight n=some r):Does Try.prog 41 [DI n] (fun x=>x=DB r):=by
 refine does_zy (X:=⟨Try.prog,tt,Try.f41.ntmps, [], [], [], [], [], []⟩) pok _ Try.func41 rfl rfl (Nat.le_of_ble_eq_true rfl) ?_
 obtain⟨x1,hx2,hm⟩:=bd_some hm
 refine CallY.det (d_moon_within n 0 100000 _ hx2) ?_
 cases hm
 exact RetY.le (leD.refl _)
def m_moon_gcd_L1:(Int×Int)→Option (Sum (Int×Int) (Int×Int)):=fun(a2,b3)=>
 if(b3 !=0)=true then
  gd (b3≠0)<|
  some (.inl (b3,(a2.tmod b3)))
 else
  some (.inr (a2,b3))
def m_moon_gcd (a:Int) (b_:Int):Option Int:=
 Option.bind (loopF m_moon_gcd_L1 (a,b_)) fun(a6,b7)=>
 some (if(W (0-a6))>a6 then(W (0-a6))else a6)
theorem d_moon_gcd (a:Int) (b_:Int) (r:Int) (hm:m_moon_gcd a b_=some r):Does Try.prog 75 [DI a,DI b_] (fun x=>x=DI r):=by
 refine does_zy (X:=⟨Try.prog,tt,Try.f75.ntmps,pl75, [], [], [], [], []⟩) pok _ Try.func75 rfl rfl (Nat.le_of_ble_eq_true rfl) ?_
 obtain⟨ev8,he,hk9⟩:=bd_some hm
 refine LoopY.ofL m_moon_gcd_L1 (fun(a2,b3)=>⟨[(0,DI a2),(1,DI b3),(4,DI 0)], [],0⟩) (a,b_) (SubY.of 0 rfl ⟨tR rfl,tR rfl,tR rfl,trivial⟩ trivial) he ?_
 rintro fu10 ⟨a2,b3⟩ b hm hi11
 revert hm
 refine VIf.b (fun h12 hm=> ?_) (fun h12 hm=> ?_)
 refine⟨rfl, ?_⟩
 obtain⟨hg,hm⟩:=gd_some hm
 refine⟨hg, ?_⟩
 cases hm
 exact⟨(_,(b3,(a2.tmod b3))),SubY.of 0 rfl ⟨tR rfl,tR rfl,tR rfl,trivial⟩ trivial,hi11,Nat.lt_succ_self _⟩
 cases hm
 cases hi11
 have hm:=hk9
 cases hm
 exact RetY.le (leD.refl _)
def m_moon_least (num:Int) (den:Int):Option TFrac:=
 Option.bind (m_moon_gcd num den) fun x1=>
 gd (x1≠0)<|
 gd (x1≠0)<|
 some (⟨(W (num.tdiv x1)),(W (den.tdiv x1))⟩:TFrac)
theorem d_moon_least (num:Int) (den:Int) (r:TFrac) (hm:m_moon_least num den=some r):Does Try.prog 68 [DI num,DI den] (fun x=>x= .agg (TFrac.c r)):=by
 refine does_zy (X:=⟨Try.prog,tt,Try.f68.ntmps,pl68, [], [], [], [], []⟩) pok _ Try.func68 rfl rfl (Nat.le_of_ble_eq_true rfl) ?_
 obtain⟨x1,hx2,hm⟩:=bd_some hm
 refine CallY.det (d_moon_gcd num den _ hx2) ?_
 refine⟨rfl, ?_⟩
 obtain⟨hg,hm⟩:=gd_some hm
 refine⟨hg, ?_⟩
 obtain⟨hg,hm⟩:=gd_some hm
 refine⟨hg, ?_⟩
 cases hm
 exact RetY.le (leD.refl _)
def m_moon_reduced (x:TFrac):Option TFrac:=
 Option.bind (m_moon_least x.Num x.Den) fun x1=>
 some x1
theorem d_moon_reduced (x:TFrac) (r:TFrac) (hm:m_moon_reduced x=some r):Does Try.prog 59 [.agg (TFrac.c x)] (fun x=>x= .agg (TFrac.c r)):=by
 refine does_zy (X:=⟨Try.prog,tt,Try.f59.ntmps, [], [], [], [], [], []⟩) pok _ Try.func59 rfl rfl (Nat.le_of_ble_eq_true rfl) ?_
 obtain⟨x1,hx2,hm⟩:=bd_some hm
 refine CallY.det (d_moon_least x.Num x.Den _ hx2) ?_
 cases hm
 exact RetY.le (leD.refl _)
def m_cmp_isNaN_int (x:Int):Option Bool:=
 some (x !=x)
theorem d_cmp_isNaN_int (x:Int) (r:Bool) (hm:m_cmp_isNaN_int x=some r):Does Try.prog 77 [DI x] (fun x=>x=DB r):=by
 refine does_zy (X:=⟨Try.prog,tt,Try.f77.ntmps, [], [], [], [], [], []⟩) pok _ Try.func77 rfl rfl (Nat.le_of_ble_eq_true rfl) ?_
 cases hm
 exact RetY.le (leD.refl _)
def m_cmp_Compare_int (x:Int) (y:Int):Option Int:=
 Option.bind (m_cmp_isNaN_int x) fun x1=>
 Option.bind (m_cmp_isNaN_int y) fun x3=>
 if x1=true then
  if x3=true then
   some 0
  else
   some (-1)
 else
  if x3=true then
   some 1
  else
   if(decide (x<y))=true then
    some (-1)
   else
    if(decide (x>y))=true then
     some 1
    else
     some 0
theorem d_cmp_Compare_int (x:Int) (y:Int) (r:Int) (hm:m_cmp_Compare_int x y=some r):Does Try.prog 73 [DI x,DI y] (fun x=>x=DI r):=by
 refine does_zy (X:=⟨Try.prog,tt,Try.f73.ntmps, [], [], [], [], [], []⟩) pok _ Try.func73 rfl rfl (Nat.le_of_ble_eq_true rfl) ?_
 obtain⟨x1,hx2,hm⟩:=bd_some hm
 refine CallY.det (d_cmp_isNaN_int x _ hx2) ?_
 obtain⟨x3,hx4,hm⟩:=bd_some hm
 refine CallY.det (d_cmp_isNaN_int y _ hx4) ?_
 revert hm
 refine VIf.b (fun h5 hm=> ?_) (fun h5 hm=> ?_)
 revert hm
 refine VIf.b (fun h6 hm=> ?_) (fun h6 hm=> ?_)
 cases hm
 exact RetY.le (leD.refl _)
 cases hm
 exact RetY.le (leD.refl _)
 revert hm
 refine VIf.b (fun h7 hm=> ?_) (fun h7 hm=> ?_)
 cases hm
 exact RetY.le (leD.refl _)
 revert hm
 refine VIf.b (fun h8 hm=> ?_) (fun h8 hm=> ?_)
 cases hm
 exact RetY.le (leD.refl _)
 revert hm
 refine VIf.b (fun h9 hm=> ?_) (fun h9 hm=> ?_)
 cases hm
 exact RetY.le (leD.refl _)
 cases hm
 exact RetY.le (leD.refl _)
def m_moon_compare (x:TFrac) (y:TFrac):Option Int:=
 Option.bind (m_moon_reduced x) fun x1=>
 Option.bind (m_moon_reduced y) fun x3=>
 if((x1.Num==x3.Num)&&(x1.Den==x3.Den))=true then
  some 0
 else
  Option.bind (m_cmp_Compare_int (W (x.Num*y.Den)) (W (y.Num*x.Den))) fun x6=>
  some x6
theorem d_moon_compare (x:TFrac) (y:TFrac) (r:Int) (hm:m_moon_compare x y=some r):Does Try.prog 61 [.agg (TFrac.c x), .agg (TFrac.c y)] (fun x=>x=DI r):=by
 refine does_zy (X:=⟨Try.prog,tt,Try.f61.ntmps,pl61, [], [], [], [], []⟩) pok _ Try.func61 rfl rfl (Nat.le_of_ble_eq_true rfl) ?_
 refine⟨rfl, ?_⟩
 obtain⟨x1,hx2,hm⟩:=bd_some hm
 refine CallY.det (d_moon_reduced x _ hx2) ?_
 obtain⟨x3,hx4,hm⟩:=bd_some hm
 refine CallY.det (d_moon_reduced y _ hx4) ?_
 revert hm
 refine VIf.b (fun h5 hm=> ?_) (fun h5 hm=> ?_)
 cases hm
 exact RetY.le (leD.refl _)
 obtain⟨x6,hx7,hm⟩:=bd_some hm
 refine CallY.det (d_cmp_Compare_int (W (x.Num*y.Den)) (W (y.Num*x.Den)) _ hx7) ?_
 cases hm
 exact RetY.le (leD.refl _)
def m_moon_lasts (known:Int) (until_:Int):Option Bool:=
 Option.bind (m_moon_isNight known) fun x1=>
 if x1=true then
  if(until_==0)=true then
   some true
  else
   if(decide (known<until_))=true then
    Option.bind (m_moon_isNight until_) fun x6=>
    some x6
   else
    some false
 else
  some false
theorem d_moon_lasts (known:Int) (until_:Int) (r:Bool) (hm:m_moon_lasts known until_=some r):Does Try.prog 62 [DI known,DI until_] (fun x=>x=DB r):=by
 refine does_zy (X:=⟨Try.prog,tt,Try.f62.ntmps, [], [], [], [], [], []⟩) pok _ Try.func62 rfl rfl (Nat.le_of_ble_eq_true rfl) ?_
 obtain⟨x1,hx2,hm⟩:=bd_some hm
 refine CallY.det (d_moon_isNight known _ hx2) ?_
 revert hm
 refine VIf.b (fun h3 hm=> ?_) (fun h3 hm=> ?_)
 revert hm
 refine VIf.b (fun h4 hm=> ?_) (fun h4 hm=> ?_)
 cases hm
 exact RetY.le (leD.refl _)
 revert hm
 refine VIf.b (fun h5 hm=> ?_) (fun h5 hm=> ?_)
 obtain⟨x6,hx7,hm⟩:=bd_some hm
 refine CallY.det (d_moon_isNight until_ _ hx7) ?_
 cases hm
 exact RetY.le (leD.refl _)
 cases hm
 exact RetY.le (leD.refl _)
 cases hm
 exact RetY.le (leD.refl _)
def m_moon_isFrac (x:TFrac) (most:Int):Option Bool:=
 Option.bind (m_moon_within x.Den 1 most) fun x1=>
 if x1=true then
  Option.bind (m_moon_within x.Num (W ((-360)*x.Den)) (W (360*x.Den))) fun x4=>
  some x4
 else
  some false
theorem d_moon_isFrac (x:TFrac) (most:Int) (r:Bool) (hm:m_moon_isFrac x most=some r):Does Try.prog 63 [.agg (TFrac.c x),DI most] (fun x=>x=DB r):=by
 refine does_zy (X:=⟨Try.prog,tt,Try.f63.ntmps, [], [], [], [], [], []⟩) pok _ Try.func63 rfl rfl (Nat.le_of_ble_eq_true rfl) ?_
 obtain⟨x1,hx2,hm⟩:=bd_some hm
 refine CallY.det (d_moon_within x.Den 1 most _ hx2) ?_
 revert hm
 refine VIf.b (fun h3 hm=> ?_) (fun h3 hm=> ?_)
 obtain⟨x4,hx5,hm⟩:=bd_some hm
 refine CallY.det (d_moon_within x.Num (W ((-360)*x.Den)) (W (360*x.Den)) _ hx5) ?_
 cases hm
 exact RetY.le (leD.refl _)
 cases hm
 exact RetY.le (leD.refl _)
def m_moon_isRow (r_:TRow):Option Bool:=
 Option.bind (m_moon_isFrac r_.Height 100) fun x1=>
 if x1=true then
  Option.bind (m_moon_within r_.Height.Num (W ((-90)*r_.Height.Den)) (W (90*r_.Height.Den))) fun x4=>
  if x4=true then
   Option.bind (m_moon_isFrac r_.Bearing 100) fun x7=>
   if x7=true then
    if(decide (0≤r_.Bearing.Num))=true then
     some (decide (r_.Bearing.Num<(W (360*r_.Bearing.Den))))
    else
     some false
   else
    some false
  else
   some false
 else
  some false
theorem d_moon_isRow (r_:TRow) (r:Bool) (hm:m_moon_isRow r_=some r):Does Try.prog 64 [.agg (TRow.c r_)] (fun x=>x=DB r):=by
 refine does_zy (X:=⟨Try.prog,tt,Try.f64.ntmps, [], [], [], [], [], []⟩) pok _ Try.func64 rfl rfl (Nat.le_of_ble_eq_true rfl) ?_
 obtain⟨x1,hx2,hm⟩:=bd_some hm
 refine CallY.det (d_moon_isFrac r_.Height 100 _ hx2) ?_
 revert hm
 refine VIf.b (fun h3 hm=> ?_) (fun h3 hm=> ?_)
 obtain⟨x4,hx5,hm⟩:=bd_some hm
 refine CallY.det (d_moon_within r_.Height.Num (W ((-90)*r_.Height.Den)) (W (90*r_.Height.Den)) _ hx5) ?_
 revert hm
 refine VIf.b (fun h6 hm=> ?_) (fun h6 hm=> ?_)
 obtain⟨x7,hx8,hm⟩:=bd_some hm
 refine CallY.det (d_moon_isFrac r_.Bearing 100 _ hx8) ?_
 revert hm
 refine VIf.b (fun h9 hm=> ?_) (fun h9 hm=> ?_)
 revert hm
 refine VIf.b (fun h10 hm=> ?_) (fun h10 hm=> ?_)
 cases hm
 exact RetY.le (leD.refl _)
 cases hm
 exact RetY.le (leD.refl _)
 cases hm
 exact RetY.le (leD.refl _)
 cases hm
 exact RetY.le (leD.refl _)
 cases hm
 exact RetY.le (leD.refl _)
def m_moon_CheckSheet_L1 (s:TSheet):Int→Option (Sum Int (Sum Int Int)):=fun v28=>
 if(decide (v28<(s.Rows.length:Int)))=true then
  Option.bind (idx s.Rows v28) fun e45=>
  Option.bind (m_moon_isRow e45) fun x47=>
  if(!x47)=true then
   some (.inr (.inr 21))
  else
   if(decide (v28>0))=true then
    Option.bind (idx s.Rows (W (v28-1))) fun e51=>
    if(decide (e51.Minute≥e45.Minute))=true then
     some (.inr (.inr 21))
    else
     Option.bind (idx s.Rows (W (v28-1))) fun e54=>
     Option.bind (m_moon_compare e54.Bearing e45.Bearing) fun x56=>
     if(decide (x56>0))=true then
      some (.inr (.inr 21))
     else
      some (.inl (W (v28+1)))
   else
    some (.inl (W (v28+1)))
 else
  some (.inr (.inl v28))
def m_moon_CheckSheet (s:TSheet):Option Int:=
 Option.bind (m_moon_within s.Source 1 99999) fun x1=>
 if(!x1)=true then
  some 21
 else
  Option.bind (m_moon_isNight s.Night) fun x4=>
  if(!x4)=true then
   some 21
  else
   Option.bind (m_moon_lasts s.Known s.Until) fun x7=>
   if(!x7)=true then
    some 21
   else
    Option.bind (m_moon_within (s.Rows.length:Int) 2 12) fun x10=>
    if(!x10)=true then
     some 21
    else
     Option.bind (m_moon_isFrac s.Off 100) fun x13=>
     if(!x13)=true then
      some 21
     else
      Option.bind (m_moon_within s.Off.Num 0 (W (90*s.Off.Den))) fun x16=>
      if(!x16)=true then
       some 21
      else
       if(decide (0>s.Light.Lo))=true then
        some 21
       else
        if(decide (s.Light.Lo>s.Light.Hi))=true then
         some 21
        else
         if(decide (s.Light.Hi>1000))=true then
          some 21
         else
          Option.bind (loopF (m_moon_CheckSheet_L1 s) 0) fun e=>
          match e with
          | .inl v59=>
           Option.bind (idx s.Rows 0) fun e60=>
           if(e60.Minute !=0)=true then
            some 21
           else
            Option.bind (idx s.Rows (W ((s.Rows.length:Int)-1))) fun e63=>
            if(e63.Minute !=1439)=true then
             some 21
            else
             some 0
          | .inr rr66=>
           some rr66
theorem d_moon_CheckSheet (s:TSheet) (r:Int) (hm:m_moon_CheckSheet s=some r):Does Try.prog 46 [.agg (TSheet.c s)] (fun x=>x=DI r):=by
 refine does_zy (X:=⟨Try.prog,tt,Try.f46.ntmps,pl46, [], [], [], [], []⟩) pok _ Try.func46 rfl rfl (Nat.le_of_ble_eq_true rfl) ?_
 obtain⟨x1,hx2,hm⟩:=bd_some hm
 refine CallY.det (d_moon_within s.Source 1 99999 _ hx2) ?_
 revert hm
 refine VIf.b (fun h3 hm=> ?_) (fun h3 hm=> ?_)
 cases hm
 exact RetY.le (leD.refl _)
 obtain⟨x4,hx5,hm⟩:=bd_some hm
 refine CallY.det (d_moon_isNight s.Night _ hx5) ?_
 revert hm
 refine VIf.b (fun h6 hm=> ?_) (fun h6 hm=> ?_)
 cases hm
 exact RetY.le (leD.refl _)
 obtain⟨x7,hx8,hm⟩:=bd_some hm
 refine CallY.det (d_moon_lasts s.Known s.Until _ hx8) ?_
 revert hm
 refine VIf.b (fun h9 hm=> ?_) (fun h9 hm=> ?_)
 cases hm
 exact RetY.le (leD.refl _)
 obtain⟨x10,hx11,hm⟩:=bd_some hm
 refine CallY.det (d_moon_within ((s.Rows.length:Int)) 2 12 _ hx11) ?_
 revert hm
 refine VIf.b (fun h12 hm=> ?_) (fun h12 hm=> ?_)
 cases hm
 exact RetY.le (leD.refl _)
 obtain⟨x13,hx14,hm⟩:=bd_some hm
 refine CallY.det (d_moon_isFrac s.Off 100 _ hx14) ?_
 revert hm
 refine VIf.b (fun h15 hm=> ?_) (fun h15 hm=> ?_)
 cases hm
 exact RetY.le (leD.refl _)
 obtain⟨x16,hx17,hm⟩:=bd_some hm
 refine CallY.det (d_moon_within s.Off.Num 0 (W (90*s.Off.Den)) _ hx17) ?_
 revert hm
 refine VIf.b (fun h18 hm=> ?_) (fun h18 hm=> ?_)
 cases hm
 exact RetY.le (leD.refl _)
 revert hm
 refine VIf.b (fun h19 hm=> ?_) (fun h19 hm=> ?_)
 cases hm
 exact RetY.le (leD.refl _)
 revert hm
 refine VIf.b (fun h20 hm=> ?_) (fun h20 hm=> ?_)
 cases hm
 exact RetY.le (leD.refl _)
 revert hm
 refine VIf.b (fun h21 hm=> ?_) (fun h21 hm=> ?_)
 cases hm
 exact RetY.le (leD.refl _)
 obtain⟨ev67,he,hk68⟩:=bd_some hm
 refine LoopY.ofL (m_moon_CheckSheet_L1 s) (fun v28=>⟨[(0, .agg [DI s.Source,DI s.Night,DI s.Known,DI s.Until,lD 5 s.Rows TRow.c,DI s.Off.Num,DI s.Off.Den,DI s.Light.Lo,DI s.Light.Hi]),(1, .own 0 0),(2,DI 0),(67,DB (decide (s.Light.Hi>1000))),(69,lD 5 s.Rows TRow.c),(70,DI (s.Rows.length:Int)),(71,DI v28)], [(0, .blk [DI s.Source,DI s.Night,DI s.Known,DI s.Until,lD 5 s.Rows TRow.c,DI s.Off.Num,DI s.Off.Den,DI s.Light.Lo,DI s.Light.Hi] 41)],1⟩) 0 (SubY.of 1 rfl ⟨tR rfl,tR rfl,tR rfl,tR rfl,tR rfl,tR rfl,tR rfl,trivial⟩ ⟨hR rfl,trivial⟩) he ?_
 rintro fu69 v28 b hm hi70
 revert hm
 refine VIf.b (fun h71 hm=> ?_) (fun h71 hm=> ?_)
 obtain⟨e72,hx73,hm⟩:=bd_some hm
 refine⟨_,el_idx (fun _=>rfl) hx73, ?_⟩
 refine⟨rfl, ?_⟩
 obtain⟨x74,hx75,hm⟩:=bd_some hm
 refine CallY.det (d_moon_isRow e72 _ hx75) ?_
 revert hm
 refine VIf.b (fun h76 hm=> ?_) (fun h76 hm=> ?_)
 cases hm
 cases hi70
 have hm:=hk68
 cases hm
 exact RetY.le (leD.refl _)
 revert hm
 refine VIf.b (fun h77 hm=> ?_) (fun h77 hm=> ?_)
 obtain⟨e78,hx79,hm⟩:=bd_some hm
 refine⟨_,el_idx (fun _=>rfl) hx79, ?_⟩
 revert hm
 refine VIf.b (fun h80 hm=> ?_) (fun h80 hm=> ?_)
 cases hm
 cases hi70
 have hm:=hk68
 cases hm
 exact RetY.le (leD.refl _)
 obtain⟨e81,hx82,hm⟩:=bd_some hm
 refine⟨_,el_idx (fun _=>rfl) hx82, ?_⟩
 obtain⟨x83,hx84,hm⟩:=bd_some hm
 refine CallY.det (d_moon_compare e81.Bearing e72.Bearing _ hx84) ?_
 revert hm
 refine VIf.b (fun h85 hm=> ?_) (fun h85 hm=> ?_)
 cases hm
 cases hi70
 have hm:=hk68
 cases hm
 exact RetY.le (leD.refl _)
 cases hm
 exact⟨(_,(W (v28+1))),SubY.of 1 rfl ⟨tR rfl,tR rfl,tR rfl,tR rfl,tR rfl,tR rfl,tR rfl,trivial⟩ ⟨hR rfl,trivial⟩,hi70,Nat.lt_succ_self _⟩
 cases hm
 exact⟨(_,(W (v28+1))),SubY.of 1 rfl ⟨tR rfl,tR rfl,tR rfl,tR rfl,tR rfl,tR rfl,tR rfl,trivial⟩ ⟨hR rfl,trivial⟩,hi70,Nat.lt_succ_self _⟩
 cases hm
 cases hi70
 have hm:=hk68
 obtain⟨e86,hx87,hm⟩:=bd_some hm
 refine⟨_,el_idx (fun _=>rfl) hx87, ?_⟩
 revert hm
 refine VIf.b (fun h88 hm=> ?_) (fun h88 hm=> ?_)
 cases hm
 exact RetY.le (leD.refl _)
 obtain⟨e89,hx90,hm⟩:=bd_some hm
 refine⟨_,el_idx (fun _=>rfl) hx90, ?_⟩
 revert hm
 refine VIf.b (fun h91 hm=> ?_) (fun h91 hm=> ?_)
 cases hm
 exact RetY.le (leD.refl _)
 cases hm
 exact RetY.le (leD.refl _)
def m_moon_CheckRoof (r_:TRoof):Option Int:=
 if(decide (0>r_.From))=true then
  some 22
 else
  if(decide (r_.From≥r_.To))=true then
   some 22
  else
   if(decide (r_.To>360))=true then
    some 22
   else
    Option.bind (m_moon_within r_.Top 0 90) fun x4=>
    if(!x4)=true then
     some 22
    else
     some 0
theorem d_moon_CheckRoof (r_:TRoof) (r:Int) (hm:m_moon_CheckRoof r_=some r):Does Try.prog 65 [.agg (TRoof.c r_)] (fun x=>x=DI r):=by
 refine does_zy (X:=⟨Try.prog,tt,Try.f65.ntmps, [], [], [], [], [], []⟩) pok _ Try.func65 rfl rfl (Nat.le_of_ble_eq_true rfl) ?_
 revert hm
 refine VIf.b (fun h1 hm=> ?_) (fun h1 hm=> ?_)
 cases hm
 exact RetY.le (leD.refl _)
 revert hm
 refine VIf.b (fun h2 hm=> ?_) (fun h2 hm=> ?_)
 cases hm
 exact RetY.le (leD.refl _)
 revert hm
 refine VIf.b (fun h3 hm=> ?_) (fun h3 hm=> ?_)
 cases hm
 exact RetY.le (leD.refl _)
 obtain⟨x4,hx5,hm⟩:=bd_some hm
 refine CallY.det (d_moon_within r_.Top 0 90 _ hx5) ?_
 revert hm
 refine VIf.b (fun h6 hm=> ?_) (fun h6 hm=> ?_)
 cases hm
 exact RetY.le (leD.refl _)
 cases hm
 exact RetY.le (leD.refl _)
def m_moon_areRoofs_L1 (l:(List TRoof)):Int→Option (Sum Int (Sum Int Bool)):=fun v7=>
 if(decide (v7<(l.length:Int)))=true then
  Option.bind (idx l v7) fun e15=>
  Option.bind (m_moon_CheckRoof e15) fun x17=>
  if(x17 !=0)=true then
   some (.inr (.inr false))
  else
   some (.inl (W (v7+1)))
 else
  some (.inr (.inl v7))
def m_moon_areRoofs (l:(List TRoof)):Option Bool:=
 Option.bind (loopF (m_moon_areRoofs_L1 l) 0) fun e=>
 match e with
 | .inl v20=>
  some (decide ((l.length:Int)≤12))
 | .inr rr21=>
  some rr21
theorem d_moon_areRoofs (l:(List TRoof)) (r:Bool) (hm:m_moon_areRoofs l=some r):Does Try.prog 47 [lD 3 l TRoof.c] (fun x=>x=DB r):=by
 refine does_zy (X:=⟨Try.prog,tt,Try.f47.ntmps, [], [], [], [], [], []⟩) pok _ Try.func47 rfl rfl (Nat.le_of_ble_eq_true rfl) ?_
 obtain⟨ev22,he,hk23⟩:=bd_some hm
 refine LoopY.ofL (m_moon_areRoofs_L1 l) (fun v7=>⟨[(0,lD 3 l TRoof.c),(2,DB false),(5,lD 3 l TRoof.c),(6,DI (l.length:Int)),(7,DI v7)], [],0⟩) 0 (SubY.of 0 rfl ⟨tR rfl,tR rfl,tR rfl,tR rfl,tR rfl,trivial⟩ trivial) he ?_
 rintro fu24 v7 b hm hi25
 revert hm
 refine VIf.b (fun h26 hm=> ?_) (fun h26 hm=> ?_)
 obtain⟨e27,hx28,hm⟩:=bd_some hm
 refine⟨_,el_idx (fun _=>rfl) hx28, ?_⟩
 obtain⟨x29,hx30,hm⟩:=bd_some hm
 refine CallY.det (d_moon_CheckRoof e27 _ hx30) ?_
 revert hm
 refine VIf.b (fun h31 hm=> ?_) (fun h31 hm=> ?_)
 cases hm
 cases hi25
 have hm:=hk23
 cases hm
 exact RetY.le (leD.refl _)
 cases hm
 exact⟨(_,(W (v7+1))),SubY.of 0 rfl ⟨tR rfl,tR rfl,tR rfl,tR rfl,tR rfl,trivial⟩ trivial,hi25,Nat.lt_succ_self _⟩
 cases hm
 cases hi25
 have hm:=hk23
 cases hm
 exact RetY.le (leD.refl _)
def m_moon_isMinute (n:Int):Option Bool:=
 Option.bind (m_moon_within n 0 1439) fun x1=>
 some x1
theorem d_moon_isMinute (n:Int) (r:Bool) (hm:m_moon_isMinute n=some r):Does Try.prog 42 [DI n] (fun x=>x=DB r):=by
 refine does_zy (X:=⟨Try.prog,tt,Try.f42.ntmps, [], [], [], [], [], []⟩) pok _ Try.func42 rfl rfl (Nat.le_of_ble_eq_true rfl) ?_
 obtain⟨x1,hx2,hm⟩:=bd_some hm
 refine CallY.det (d_moon_within n 0 1439 _ hx2) ?_
 cases hm
 exact RetY.le (leD.refl _)
def m_moon_CheckSighting (s:TSighting):Option Int:=
 Option.bind (m_moon_within s.Source 1 99999) fun x1=>
 if(!x1)=true then
  some 23
 else
  Option.bind (m_moon_isNight s.Night) fun x4=>
  if(!x4)=true then
   some 23
  else
   Option.bind (m_moon_isMinute s.Minute) fun x7=>
   if(!x7)=true then
    some 23
   else
    Option.bind (m_moon_lasts s.Known s.Until) fun x10=>
    if(!x10)=true then
     some 23
    else
     some 0
theorem d_moon_CheckSighting (s:TSighting) (r:Int) (hm:m_moon_CheckSighting s=some r):Does Try.prog 54 [.agg (TSighting.c s)] (fun x=>x=DI r):=by
 refine does_zy (X:=⟨Try.prog,tt,Try.f54.ntmps, [], [], [], [], [], []⟩) pok _ Try.func54 rfl rfl (Nat.le_of_ble_eq_true rfl) ?_
 obtain⟨x1,hx2,hm⟩:=bd_some hm
 refine CallY.det (d_moon_within s.Source 1 99999 _ hx2) ?_
 revert hm
 refine VIf.b (fun h3 hm=> ?_) (fun h3 hm=> ?_)
 cases hm
 exact RetY.le (leD.refl _)
 obtain⟨x4,hx5,hm⟩:=bd_some hm
 refine CallY.det (d_moon_isNight s.Night _ hx5) ?_
 revert hm
 refine VIf.b (fun h6 hm=> ?_) (fun h6 hm=> ?_)
 cases hm
 exact RetY.le (leD.refl _)
 obtain⟨x7,hx8,hm⟩:=bd_some hm
 refine CallY.det (d_moon_isMinute s.Minute _ hx8) ?_
 revert hm
 refine VIf.b (fun h9 hm=> ?_) (fun h9 hm=> ?_)
 cases hm
 exact RetY.le (leD.refl _)
 obtain⟨x10,hx11,hm⟩:=bd_some hm
 refine CallY.det (d_moon_lasts s.Known s.Until _ hx11) ?_
 revert hm
 refine VIf.b (fun h12 hm=> ?_) (fun h12 hm=> ?_)
 cases hm
 exact RetY.le (leD.refl _)
 cases hm
 exact RetY.le (leD.refl _)
def m_moon_Check_L1 (s:TSky):Int→Option (Sum Int (Sum Int Int)):=fun v12=>
 if(decide (v12<(s.Sheets.length:Int)))=true then
  Option.bind (idx s.Sheets v12) fun e24=>
  Option.bind (m_moon_CheckSheet e24) fun x26=>
  if(x26 !=0)=true then
   some (.inr (.inr 24))
  else
   if(decide (v12>0))=true then
    Option.bind (idx s.Sheets (W (v12-1))) fun e30=>
    if(decide (e30.Source≥e24.Source))=true then
     some (.inr (.inr 24))
    else
     some (.inl (W (v12+1)))
   else
    some (.inl (W (v12+1)))
 else
  some (.inr (.inl v12))
def m_moon_Check_L2 (s:TSky):Int→Option (Sum Int (Sum Int Int)):=fun v40=>
 if(decide (v40<(s.Sightings.length:Int)))=true then
  Option.bind (idx s.Sightings v40) fun e52=>
  Option.bind (m_moon_CheckSighting e52) fun x54=>
  if(x54 !=0)=true then
   some (.inr (.inr 24))
  else
   if(decide (v40>0))=true then
    Option.bind (idx s.Sightings (W (v40-1))) fun e58=>
    if(decide (e58.Source≥e52.Source))=true then
     some (.inr (.inr 24))
    else
     some (.inl (W (v40+1)))
   else
    some (.inl (W (v40+1)))
 else
  some (.inr (.inl v40))
def m_moon_Check (s:TSky):Option Int:=
 if(decide ((s.Sheets.length:Int)>60))=true then
  some 24
 else
  if(decide ((s.Sightings.length:Int)>60))=true then
   some 24
  else
   Option.bind (m_moon_areRoofs s.Roofs) fun x3=>
   if(!x3)=true then
    some 24
   else
    Option.bind (loopF (m_moon_Check_L1 s) 0) fun e=>
    match e with
    | .inl v33=>
     Option.bind (loopF (m_moon_Check_L2 s) 0) fun e=>
     match e with
     | .inl v61=>
      some 0
     | .inr rr62=>
      some rr62
    | .inr rr77=>
     some rr77
theorem d_moon_Check (s:TSky) (r:Int) (hm:m_moon_Check s=some r):Does Try.prog 40 [.agg (TSky.c s)] (fun x=>x=DI r):=by
 refine does_zy (X:=⟨Try.prog,tt,Try.f40.ntmps,pl40, [], [], [], [], []⟩) pok _ Try.func40 rfl rfl (Nat.le_of_ble_eq_true rfl) ?_
 revert hm
 refine VIf.b (fun h1 hm=> ?_) (fun h1 hm=> ?_)
 cases hm
 exact RetY.le (leD.refl _)
 revert hm
 refine VIf.b (fun h2 hm=> ?_) (fun h2 hm=> ?_)
 cases hm
 exact RetY.le (leD.refl _)
 obtain⟨x3,hx4,hm⟩:=bd_some hm
 refine CallY.det (d_moon_areRoofs s.Roofs _ hx4) ?_
 revert hm
 refine VIf.b (fun h5 hm=> ?_) (fun h5 hm=> ?_)
 cases hm
 exact RetY.le (leD.refl _)
 obtain⟨ev78,he,hk79⟩:=bd_some hm
 refine LoopY.ofL (m_moon_Check_L1 s) (fun v12=>⟨[(0, .agg [lD 9 s.Sheets TSheet.c,lD 3 s.Roofs TRoof.c,lD 6 s.Sightings TSighting.c]),(1, .own 0 0),(2,DI 0),(22,DB (!x3)),(24,lD 9 s.Sheets TSheet.c),(25,DI (s.Sheets.length:Int)),(26,DI v12)], [(0, .blk [lD 9 s.Sheets TSheet.c,lD 3 s.Roofs TRoof.c,lD 6 s.Sightings TSighting.c] 32)],1⟩) 0 (SubY.of 1 rfl ⟨tR rfl,tR rfl,tR rfl,tR rfl,tR rfl,tR rfl,tR rfl,trivial⟩ ⟨hR rfl,trivial⟩) he ?_
 rintro fu80 v12 b hm hi81
 revert hm
 refine VIf.b (fun h82 hm=> ?_) (fun h82 hm=> ?_)
 obtain⟨e83,hx84,hm⟩:=bd_some hm
 refine⟨_,el_idx (fun _=>rfl) hx84, ?_⟩
 refine⟨rfl, ?_⟩
 obtain⟨x85,hx86,hm⟩:=bd_some hm
 refine CallY.det (d_moon_CheckSheet e83 _ hx86) ?_
 revert hm
 refine VIf.b (fun h87 hm=> ?_) (fun h87 hm=> ?_)
 cases hm
 cases hi81
 have hm:=hk79
 cases hm
 exact RetY.le (leD.refl _)
 revert hm
 refine VIf.b (fun h88 hm=> ?_) (fun h88 hm=> ?_)
 obtain⟨e89,hx90,hm⟩:=bd_some hm
 refine⟨_,el_idx (fun _=>rfl) hx90, ?_⟩
 revert hm
 refine VIf.b (fun h91 hm=> ?_) (fun h91 hm=> ?_)
 cases hm
 cases hi81
 have hm:=hk79
 cases hm
 exact RetY.le (leD.refl _)
 cases hm
 exact⟨(_,(W (v12+1))),SubY.of 1 rfl ⟨tR rfl,tR rfl,tR rfl,tR rfl,tR rfl,tR rfl,tR rfl,trivial⟩ ⟨hR rfl,trivial⟩,hi81,Nat.lt_succ_self _⟩
 cases hm
 exact⟨(_,(W (v12+1))),SubY.of 1 rfl ⟨tR rfl,tR rfl,tR rfl,tR rfl,tR rfl,tR rfl,tR rfl,trivial⟩ ⟨hR rfl,trivial⟩,hi81,Nat.lt_succ_self _⟩
 cases hm
 cases hi81
 have hm:=hk79
 obtain⟨ev121,he,hk122⟩:=bd_some hm
 refine LoopY.ofL (m_moon_Check_L2 s) (fun v98=>⟨[(0, .agg [lD 9 s.Sheets TSheet.c,lD 3 s.Roofs TRoof.c,lD 6 s.Sightings TSighting.c]),(1, .own 0 0),(2,DI 0),(22,DB (!x3)),(24,lD 9 s.Sheets TSheet.c),(25,DI (s.Sheets.length:Int)),(26,DI v12),(27,DB (decide (v12<(s.Sheets.length:Int)))),(52,lD 6 s.Sightings TSighting.c),(53,DI (s.Sightings.length:Int)),(54,DI v98)], [(0, .blk [lD 9 s.Sheets TSheet.c,lD 3 s.Roofs TRoof.c,lD 6 s.Sightings TSighting.c] 32)],1⟩) 0 (SubY.of 1 rfl ⟨tR rfl,tR rfl,tR rfl,tR rfl,tR rfl,tR rfl,tR rfl,tR rfl,tR rfl,tR rfl,tR rfl,trivial⟩ ⟨hR rfl,trivial⟩) he ?_
 rintro fu123 v98 b hm hi124
 revert hm
 refine VIf.b (fun h125 hm=> ?_) (fun h125 hm=> ?_)
 obtain⟨e126,hx127,hm⟩:=bd_some hm
 refine⟨_,el_idx (fun _=>rfl) hx127, ?_⟩
 refine⟨rfl, ?_⟩
 obtain⟨x128,hx129,hm⟩:=bd_some hm
 refine CallY.det (d_moon_CheckSighting e126 _ hx129) ?_
 revert hm
 refine VIf.b (fun h130 hm=> ?_) (fun h130 hm=> ?_)
 cases hm
 cases hi124
 have hm:=hk122
 cases hm
 exact RetY.le (leD.refl _)
 revert hm
 refine VIf.b (fun h131 hm=> ?_) (fun h131 hm=> ?_)
 obtain⟨e132,hx133,hm⟩:=bd_some hm
 refine⟨_,el_idx (fun _=>rfl) hx133, ?_⟩
 revert hm
 refine VIf.b (fun h134 hm=> ?_) (fun h134 hm=> ?_)
 cases hm
 cases hi124
 have hm:=hk122
 cases hm
 exact RetY.le (leD.refl _)
 cases hm
 exact⟨(_,(W (v98+1))),SubY.of 1 rfl ⟨tR rfl,tR rfl,tR rfl,tR rfl,tR rfl,tR rfl,tR rfl,tR rfl,tR rfl,tR rfl,tR rfl,trivial⟩ ⟨hR rfl,trivial⟩,hi124,Nat.lt_succ_self _⟩
 cases hm
 exact⟨(_,(W (v98+1))),SubY.of 1 rfl ⟨tR rfl,tR rfl,tR rfl,tR rfl,tR rfl,tR rfl,tR rfl,tR rfl,tR rfl,tR rfl,tR rfl,trivial⟩ ⟨hR rfl,trivial⟩,hi124,Nat.lt_succ_self _⟩
 cases hm
 cases hi124
 have hm:=hk122
 cases hm
 exact RetY.le (leD.refl _)
def m_moon_counts (from_:Int) (until_:Int) (known:Int):Option Bool:=
 if(decide (from_≤known))=true then
  if(until_==0)=true then
   some true
  else
   some (decide (known<until_))
 else
  some false
theorem d_moon_counts (from_:Int) (until_:Int) (known:Int) (r:Bool) (hm:m_moon_counts from_ until_ known=some r):Does Try.prog 56 [DI from_,DI until_,DI known] (fun x=>x=DB r):=by
 refine does_zy (X:=⟨Try.prog,tt,Try.f56.ntmps, [], [], [], [], [], []⟩) pok _ Try.func56 rfl rfl (Nat.le_of_ble_eq_true rfl) ?_
 revert hm
 refine VIf.b (fun h1 hm=> ?_) (fun h1 hm=> ?_)
 revert hm
 refine VIf.b (fun h2 hm=> ?_) (fun h2 hm=> ?_)
 cases hm
 exact RetY.le (leD.refl _)
 cases hm
 exact RetY.le (leD.refl _)
 cases hm
 exact RetY.le (leD.refl _)
def m_moon_inForce_L1 (s:TSky) (night:Int) (as_:Int):(Bool×Int×Int×Int×Int×Int×(List TRow)×Int×Int×Int×Int)→Option (Sum (Bool×Int×Int×Int×Int×Int×(List TRow)×Int×Int×Int×Int) (Bool×Int×Int×Int×Int×Int×(List TRow)×Int×Int×Int×Int)):=fun(is8,v9,v10,v11,v12,v13,v14,v15,v16,v17,v18)=>
 if(decide (v9<(s.Sheets.length:Int)))=true then
  Option.bind (idx s.Sheets v9) fun e29=>
  if(e29.Night==night)=true then
   Option.bind (m_moon_counts e29.Known e29.Until as_) fun x32=>
   if x32=true then
    if(!is8)=true then
     some (.inl (true,(W (v9+1)),e29.Source,e29.Night,e29.Known,e29.Until,e29.Rows,e29.Off.Num,e29.Off.Den,e29.Light.Lo,e29.Light.Hi))
    else
     if(decide (e29.Known≥v12))=true then
      some (.inl (true,(W (v9+1)),e29.Source,e29.Night,e29.Known,e29.Until,e29.Rows,e29.Off.Num,e29.Off.Den,e29.Light.Lo,e29.Light.Hi))
     else
      some (.inl (is8,(W (v9+1)),v10,v11,v12,v13,v14,v15,v16,v17,v18))
   else
    some (.inl (is8,(W (v9+1)),v10,v11,v12,v13,v14,v15,v16,v17,v18))
  else
   some (.inl (is8,(W (v9+1)),v10,v11,v12,v13,v14,v15,v16,v17,v18))
 else
  some (.inr (is8,v9,v10,v11,v12,v13,v14,v15,v16,v17,v18))
def m_moon_inForce (s:TSky) (night:Int) (as_:Int):Option (TSheet×Bool):=
 Option.bind (loopF (m_moon_inForce_L1 s night as_) (false,0,0,0,0,0, [],0,0,0,0)) fun(is37,v38,v39,v40,v41,v42,v43,v44,v45,v46,v47)=>
 some ((⟨v39,v40,v41,v42,v43,(⟨v44,v45⟩:TFrac),(⟨v46,v47⟩:TRange)⟩:TSheet),is37)
theorem d_moon_inForce (s:TSky) (night:Int) (as_:Int) (r:(TSheet×Bool)) (hm:m_moon_inForce s night as_=some r):Does Try.prog 43 [.agg (TSky.c s),DI night,DI as_] (fun x=>x= .tup [.agg (TSheet.c r.1),DB r.2]):=by
 refine does_zy (X:=⟨Try.prog,tt,Try.f43.ntmps, [], [], [], [], [], []⟩) pok _ Try.func43 rfl rfl (Nat.le_of_ble_eq_true rfl) ?_
 obtain⟨ev48,he,hk49⟩:=bd_some hm
 refine LoopY.ofL (m_moon_inForce_L1 s night as_) (fun(is8,v9,v10,v11,v12,v13,v14,v15,v16,v17,v18)=>⟨[(0, .agg [lD 9 s.Sheets TSheet.c,lD 3 s.Roofs TRoof.c,lD 6 s.Sightings TSighting.c]),(1,DI night),(2,DI as_),(3, .own 0 0),(6, .own 1 0),(7,DB is8),(11,lD 9 s.Sheets TSheet.c),(12,DI (s.Sheets.length:Int)),(13,DI v9)], [(0, .blk [lD 9 s.Sheets TSheet.c,lD 3 s.Roofs TRoof.c,lD 6 s.Sightings TSighting.c] 32),(1, .blk [DI v10,DI v11,DI v12,DI v13,lD 5 v14 TRow.c,DI v15,DI v16,DI v17,DI v18] 41)],2⟩) (false,0,0,0,0,0, [],0,0,0,0) (SubY.of 2 rfl ⟨tR rfl,tR rfl,tR rfl,tR rfl,tR rfl,tR rfl,tR rfl,tR rfl,tR rfl,trivial⟩ ⟨hR rfl,⟨_,rfl,⟨leD.refl _,leD.refl _,leD.refl _,leD.refl _,leD.nil,leD.refl _,leD.refl _,leD.refl _,leD.refl _,trivial⟩⟩,trivial⟩) he ?_
 rintro fu50 ⟨is8,v9,v10,v11,v12,v13,v14,v15,v16,v17,v18⟩ b hm hi51
 revert hm
 refine VIf.b (fun h52 hm=> ?_) (fun h52 hm=> ?_)
 obtain⟨e53,hx54,hm⟩:=bd_some hm
 refine⟨_,el_idx (fun _=>rfl) hx54, ?_⟩
 revert hm
 refine VIf.b (fun h55 hm=> ?_) (fun h55 hm=> ?_)
 obtain⟨x56,hx57,hm⟩:=bd_some hm
 refine CallY.det (d_moon_counts e53.Known e53.Until as_ _ hx57) ?_
 revert hm
 refine VIf.b (fun h58 hm=> ?_) (fun h58 hm=> ?_)
 revert hm
 refine VIf.b (fun h59 hm=> ?_) (fun h59 hm=> ?_)
 cases hm
 exact⟨(_,(true,(W (v9+1)),e53.Source,e53.Night,e53.Known,e53.Until,e53.Rows,e53.Off.Num,e53.Off.Den,e53.Light.Lo,e53.Light.Hi)),SubY.of 2 rfl ⟨tR rfl,tR rfl,tR rfl,tR rfl,tR rfl,tR rfl,tR rfl,tR rfl,tR rfl,trivial⟩ ⟨hR rfl,hR rfl,trivial⟩,hi51,Nat.lt_succ_self _⟩
 revert hm
 refine VIf.b (fun h60 hm=> ?_) (fun h60 hm=> ?_)
 cases hm
 exact⟨(_,(true,(W (v9+1)),e53.Source,e53.Night,e53.Known,e53.Until,e53.Rows,e53.Off.Num,e53.Off.Den,e53.Light.Lo,e53.Light.Hi)),SubY.of 2 rfl ⟨tR rfl,tR rfl,tR rfl,tR rfl,tR rfl,tR rfl,tR rfl,tR rfl,tR rfl,trivial⟩ ⟨hR rfl,hR rfl,trivial⟩,hi51,Nat.lt_succ_self _⟩
 cases hm
 exact⟨(_,(is8,(W (v9+1)),v10,v11,v12,v13,v14,v15,v16,v17,v18)),SubY.of 2 rfl ⟨tR rfl,tR rfl,tR rfl,tR rfl,tR rfl,tR rfl,tR rfl,tR rfl,tR rfl,trivial⟩ ⟨hR rfl,hR rfl,trivial⟩,hi51,Nat.lt_succ_self _⟩
 cases hm
 exact⟨(_,(is8,(W (v9+1)),v10,v11,v12,v13,v14,v15,v16,v17,v18)),SubY.of 2 rfl ⟨tR rfl,tR rfl,tR rfl,tR rfl,tR rfl,tR rfl,tR rfl,tR rfl,tR rfl,trivial⟩ ⟨hR rfl,hR rfl,trivial⟩,hi51,Nat.lt_succ_self _⟩
 cases hm
 exact⟨(_,(is8,(W (v9+1)),v10,v11,v12,v13,v14,v15,v16,v17,v18)),SubY.of 2 rfl ⟨tR rfl,tR rfl,tR rfl,tR rfl,tR rfl,tR rfl,tR rfl,tR rfl,tR rfl,trivial⟩ ⟨hR rfl,hR rfl,trivial⟩,hi51,Nat.lt_succ_self _⟩
 cases hm
 cases hi51
 have hm:=hk49
 cases hm
 exact RetY.le (leD.refl _)
def m_slices_Clone_api_Sighting_api_Sighting (s:List TSighting):Option (List TSighting):=gd (s.length*48≤140737488355328∧s.length≤9223372036854775807) (some s)
theorem d_slices_Clone_api_Sighting_api_Sighting (s:List TSighting) (r:List TSighting) (hm:m_slices_Clone_api_Sighting_api_Sighting s=some r):Does Try.prog 34 [.lst 6 s.length (s.flatMap TSighting.c)] (fun x=>x= .lst 6 r.length (r.flatMap TSighting.c)):=by
 obtain⟨hg,hm⟩:=gd_some hm
 cases hm
 refine does_zy (X:=⟨Try.prog,tt,Try.f34.ntmps, [], [], [], [], [], []⟩) pok _ Try.func34 rfl rfl (Nat.le_of_ble_eq_true rfl) ?_
 intro b hb
 refine VIf.mk (fun h=> ?_) (fun h=> ?_)
 · have h0:=hb h
   have h1:s= []:=List.eq_nil_of_length_eq_zero h0
   subst h1
   exact RetY.le leD.nil
 · refine⟨[],0,⟨rfl,rfl⟩, ?_⟩
   exact⟨by omega,s.flatMap TSighting.c,s.length,⟨rfl,Nat.zero_add _⟩,RetY.le (leD.refl _)⟩
theorem u_slices_Clone_api_Sighting_api_Sighting (s:List TSighting) (r:List TSighting) (hm:m_slices_Clone_api_Sighting_api_Sighting s=some r):DoesU Try.prog 34 [.lst 6 s.length (s.flatMap TSighting.c)] 6 r.length (r.flatMap TSighting.c) 61:=by
 obtain⟨hg,hm⟩:=gd_some hm
 cases hm
 refine does_zu (X:=⟨Try.prog,tt,Try.f34.ntmps, [], [], [], [], [], []⟩) pok _ Try.func34 rfl rfl (Nat.le_of_ble_eq_true rfl) ?_
 intro b hb
 refine VIf.mk (fun h=> ?_) (fun h=> ?_)
 · have h0:=hb h
   have h1:s= []:=List.eq_nil_of_length_eq_zero h0
   subst h1
   exact⟨rfl,rfl⟩
 · refine⟨[],0,⟨rfl,rfl⟩, ?_⟩
   exact⟨by omega,s.flatMap TSighting.c,s.length,⟨rfl,Nat.zero_add _⟩,⟨rfl,rfl⟩⟩
def m_moon_sighted_1 (x:TSighting) (c_0:Int) (c_1:Int):Option Bool:=
 if(x.Night !=c_0)=true then
  some true
 else
  Option.bind (m_moon_counts x.Known x.Until c_1) fun x2=>
  some (!x2)
theorem d_moon_sighted_1 (x:TSighting) (c_0:Int) (c_1:Int) (r:Bool) (hm:m_moon_sighted_1 x c_0 c_1=some r):Does Try.prog 58 [.agg (TSighting.c x), .ptr [DI c_0] 0, .ptr [DI c_1] 0] (fun x=>x=DB r):=by
 refine does_zy (X:=⟨Try.prog,tt,Try.f58.ntmps, [], [], [], [], [], []⟩) pok _ Try.func58 rfl rfl (Nat.le_of_ble_eq_true rfl) ?_
 revert hm
 refine VIf.b (fun h1 hm=> ?_) (fun h1 hm=> ?_)
 cases hm
 exact RetY.le (leD.refl _)
 obtain⟨x2,hx3,hm⟩:=bd_some hm
 refine CallY.det (d_moon_counts x.Known x.Until c_1 _ hx3) ?_
 cases hm
 exact RetY.le (leD.refl _)
def m_slices_IndexFunc_api_Sighting_api_Sighting__moon_sighted_1_L1 (s:(List TSighting)) (c1_0:Int) (c1_1:Int):Int→Option (Sum Int (Sum Int Int)):=fun v7=>
 if(decide (v7<(s.length:Int)))=true then
  Option.bind (idx s v7) fun e15=>
  Option.bind (m_moon_sighted_1 e15 c1_0 c1_1) fun x17=>
  if x17=true then
   some (.inr (.inr v7))
  else
   some (.inl (W (v7+1)))
 else
  some (.inr (.inl v7))
def m_slices_IndexFunc_api_Sighting_api_Sighting__moon_sighted_1 (s:(List TSighting)) (c1_0:Int) (c1_1:Int):Option Int:=
 Option.bind (loopF (m_slices_IndexFunc_api_Sighting_api_Sighting__moon_sighted_1_L1 s c1_0 c1_1) 0) fun e=>
 match e with
 | .inl v20=>
  some (-1)
 | .inr rr21=>
  some rr21
theorem d_slices_IndexFunc_api_Sighting_api_Sighting__moon_sighted_1 (s:(List TSighting)) (c1_0:Int) (c1_1:Int) (r:Int) (hm:m_slices_IndexFunc_api_Sighting_api_Sighting__moon_sighted_1 s c1_0 c1_1=some r):Does Try.prog 31 [lD 6 s TSighting.c, .fn 58 [] [.ptr [DI c1_0] 0, .ptr [DI c1_1] 0]] (fun x=>x=DI r):=by
 refine does_zy (X:=⟨Try.prog,tt,Try.f31.ntmps, [], [], [], [], [], []⟩) pok _ Try.func31 rfl rfl (Nat.le_of_ble_eq_true rfl) ?_
 obtain⟨ev22,he,hk23⟩:=bd_some hm
 refine LoopY.ofL (m_slices_IndexFunc_api_Sighting_api_Sighting__moon_sighted_1_L1 s c1_0 c1_1) (fun v7=>⟨[(0,lD 6 s TSighting.c),(1, .fn 58 [] [.ptr [DI c1_0] 0, .ptr [DI c1_1] 0]),(4,DI 0),(7,DI (s.length:Int)),(8,DI v7)], [],0⟩) 0 (SubY.of 0 rfl ⟨tR rfl,tR rfl,tR rfl,tR rfl,tR rfl,trivial⟩ trivial) he ?_
 rintro fu24 v7 b hm hi25
 revert hm
 refine VIf.b (fun h26 hm=> ?_) (fun h26 hm=> ?_)
 obtain⟨e27,hx28,hm⟩:=bd_some hm
 refine⟨_,el_idx (fun _=>rfl) hx28, ?_⟩
 obtain⟨x29,hx30,hm⟩:=bd_some hm
 refine CallY.det (d_moon_sighted_1 e27 c1_0 c1_1 _ hx30) ?_
 revert hm
 refine VIf.b (fun h31 hm=> ?_) (fun h31 hm=> ?_)
 cases hm
 cases hi25
 have hm:=hk23
 cases hm
 exact RetY.le (leD.refl _)
 cases hm
 exact⟨(_,(W (v7+1))),SubY.of 0 rfl ⟨tR rfl,tR rfl,tR rfl,tR rfl,tR rfl,trivial⟩ trivial,hi25,Nat.lt_succ_self _⟩
 cases hm
 cases hi25
 have hm:=hk23
 cases hm
 exact RetY.le (leD.refl _)
def m_slices_DeleteFunc_api_Sighting_api_Sighting__moon_sighted_1_L1 (c1_0:Int) (c1_1:Int):(Int×Int×(List TSighting))→Option (Sum (Int×Int×(List TSighting)) (Int×Int×(List TSighting))):=fun(i16,j17,v18)=>
 if(decide (j17<(v18.length:Int)))=true then
  Option.bind (idx v18 j17) fun e32=>
  Option.bind (idx v18 j17) fun e34=>
  Option.bind (m_moon_sighted_1 e34 c1_0 c1_1) fun x36=>
  if(!x36)=true then
   Option.bind (idx v18 i16) fun e39=>
   Option.bind (idx v18 i16) fun e41=>
   some (.inl ((W (i16+1)),(W (j17+1)),(v18.set i16.toNat e34)))
  else
   some (.inl (i16,(W (j17+1)),v18))
 else
  some (.inr (i16,j17,v18))
def m_slices_DeleteFunc_api_Sighting_api_Sighting__moon_sighted_1 (s:(List TSighting)) (c1_0:Int) (c1_1:Int):Option (List TSighting):=
 Option.bind (m_slices_IndexFunc_api_Sighting_api_Sighting__moon_sighted_1 s c1_0 c1_1) fun x1=>
 if(x1==(-1))=true then
  some s
 else
  Option.bind (loopF (m_slices_DeleteFunc_api_Sighting_api_Sighting__moon_sighted_1_L1 c1_0 c1_1) (x1,(W (x1+1)),s)) fun(i43,j44,v45)=>
  gd (0≤i43∧i43.toNat≤v45.length∧0<v45.length) (some (v45.take i43.toNat))
theorem d_slices_DeleteFunc_api_Sighting_api_Sighting__moon_sighted_1 (s:(List TSighting)) (c1_0:Int) (c1_1:Int) (r:(List TSighting)) (hm:m_slices_DeleteFunc_api_Sighting_api_Sighting__moon_sighted_1 s c1_0 c1_1=some r):DoesL Try.prog 57 6 s.length (s.flatMap TSighting.c) 61 [.fn 58 [] [.ptr [DI c1_0] 0, .ptr [DI c1_1] 0]] 6 r.length (r.flatMap TSighting.c):=by
 refine does_zdel (X:=⟨Try.prog,tt,Try.f57.ntmps, [], [], [], [], [], []⟩) (t:=30) (ty:=61) (args:= [.fn 58 [] [.ptr [DI c1_0] 0, .ptr [DI c1_1] 0]]) pok Try.func57 rfl rfl (Nat.le_of_ble_eq_true rfl) .mk rfl rfl rfl rfl rfl rfl ?_
 obtain⟨x1,hx2,hm⟩:=bd_some hm
 refine CallOwn.det (d_slices_IndexFunc_api_Sighting_api_Sighting__moon_sighted_1 s c1_0 c1_1 _ hx2) ?_
 revert hm
 refine VIf.b (fun h3 hm=> ?_) (fun h3 hm=> ?_)
 cases hm
 exact⟨rfl,rfl⟩
 obtain⟨ev46,he,hk47⟩:=bd_some hm
 refine LoopY.ofL (m_slices_DeleteFunc_api_Sighting_api_Sighting__moon_sighted_1_L1 c1_0 c1_1) (fun(i16,j17,v18)=>⟨[(0, .row 0 6),(1, .fn 58 [] [.ptr [DI c1_0] 0, .ptr [DI c1_1] 0]),(4, .v (.slice none 0 0)),(5,DI i16),(6,DI j17),(12,DB (x1==(-1)))], [(0,rE 6 v18 TSighting.c 61)],1⟩) (x1,(W (x1+1)),s) (SubY.of 1 rfl ⟨tR rfl,tR rfl,tR rfl,tR rfl,tR rfl,tR rfl,trivial⟩ ⟨hW rfl,trivial⟩) he ?_
 rintro fu48 ⟨i16,j17,v18⟩ b hm hi49
 revert hm
 refine VIf.b (fun h50 hm=> ?_) (fun h50 hm=> ?_)
 obtain⟨e51,hx52,hm⟩:=bd_some hm
 refine⟨idx_bd hx52, ?_⟩
 obtain⟨e53,hx54,hm⟩:=bd_some hm
 refine⟨_,el_row (fun _=>rfl) hx54, ?_⟩
 obtain⟨x55,hx56,hm⟩:=bd_some hm
 refine CallY.det (d_moon_sighted_1 e53 c1_0 c1_1 _ hx56) ?_
 revert hm
 refine VIf.b (fun h57 hm=> ?_) (fun h57 hm=> ?_)
 obtain⟨e58,hx59,hm⟩:=bd_some hm
 refine⟨idx_bd hx59, ?_⟩
 obtain⟨e60,hx61,hm⟩:=bd_some hm
 refine⟨_,el_row (fun _=>rfl) hx61,_,set_row (y:=e53) (fun _=>rfl) hx61, ?_⟩
 cases hm
 exact⟨(_,((W (i16+1)),(W (j17+1)),(v18.set i16.toNat e53))),SubY.of 1 rfl ⟨tR rfl,tR rfl,tR rfl,tR rfl,tR rfl,tR rfl,trivial⟩ ⟨hW rfl,trivial⟩,hi49,Nat.lt_succ_self _⟩
 cases hm
 exact⟨(_,(i16,(W (j17+1)),v18)),SubY.of 1 rfl ⟨tR rfl,tR rfl,tR rfl,tR rfl,tR rfl,tR rfl,trivial⟩ ⟨hW rfl,trivial⟩,hi49,Nat.lt_succ_self _⟩
 cases hm
 cases hi49
 have hm:=hk47
 obtain⟨hg,hm⟩:=gd_some hm
 cases hm
 exact del_k (fun _=>rfl) hg
def m_moon_sighted (s:TSky) (night:Int) (as_:Int):Option (List TSighting):=
 Option.bind (m_slices_Clone_api_Sighting_api_Sighting s.Sightings) fun x1=>
 Option.bind (m_slices_DeleteFunc_api_Sighting_api_Sighting__moon_sighted_1 x1 night as_) fun x3=>
 some x3
theorem d_moon_sighted (s:TSky) (night:Int) (as_:Int) (r:(List TSighting)) (hm:m_moon_sighted s night as_=some r):Does Try.prog 44 [.agg (TSky.c s),DI night,DI as_] (fun x=>x=lD 6 r TSighting.c):=by
 refine does_zy (X:=⟨Try.prog,tt,Try.f44.ntmps, [], [33,57], [34], [], [], []⟩) pok _ Try.func44 rfl rfl (Nat.le_of_ble_eq_true rfl) ?_
 obtain⟨x1,hx2,hm⟩:=bd_some hm
 refine .inl (CallU.mk ⟨_,_,_,_,u_slices_Clone_api_Sighting_api_Sighting s.Sightings _ hx2, ?_⟩)
 obtain⟨x3,hx4,hm⟩:=bd_some hm
 refine .inl (CallL.mk ⟨_,_,_,_,_,_,_,rfl,d_slices_DeleteFunc_api_Sighting_api_Sighting__moon_sighted_1 x1 night as_ _ hx4, ?_⟩)
 cases hm
 exact RetY.le (leD.refl _)
def m_moon_between (h:TFrac) (k:TFrac) (part:Int) (all:Int):Option TFrac:=
 Option.bind (m_moon_least (W ((W ((W (h.Num*k.Den))*all))+(W ((W ((W (k.Num*h.Den))-(W (h.Num*k.Den))))*part)))) (W ((W (h.Den*k.Den))*all))) fun x1=>
 some x1
theorem d_moon_between (h:TFrac) (k:TFrac) (part:Int) (all:Int) (r:TFrac) (hm:m_moon_between h k part all=some r):Does Try.prog 74 [.agg (TFrac.c h), .agg (TFrac.c k),DI part,DI all] (fun x=>x= .agg (TFrac.c r)):=by
 refine does_zy (X:=⟨Try.prog,tt,Try.f74.ntmps, [], [], [], [], [], []⟩) pok _ Try.func74 rfl rfl (Nat.le_of_ble_eq_true rfl) ?_
 obtain⟨x1,hx2,hm⟩:=bd_some hm
 refine CallY.det (d_moon_least (W ((W ((W (h.Num*k.Den))*all))+(W ((W ((W (k.Num*h.Den))-(W (h.Num*k.Den))))*part)))) (W ((W (h.Den*k.Den))*all)) _ hx2) ?_
 cases hm
 exact RetY.le (leD.refl _)
def m_moon_heightOf (r_:TRow):Option TFrac:=
 some r_.Height
theorem d_moon_heightOf (r_:TRow) (r:TFrac) (hm:m_moon_heightOf r_=some r):Does Try.prog 67 [.agg (TRow.c r_)] (fun x=>x= .agg (TFrac.c r)):=by
 refine does_zy (X:=⟨Try.prog,tt,Try.f67.ntmps, [], [], [], [], [], []⟩) pok _ Try.func67 rfl rfl (Nat.le_of_ble_eq_true rfl) ?_
 cases hm
 exact RetY.le (leD.refl _)
def m_moon_whole (n:Int):Option TFrac:=
 some (⟨n,1⟩:TFrac)
theorem d_moon_whole (n:Int) (r:TFrac) (hm:m_moon_whole n=some r):Does Try.prog 76 [DI n] (fun x=>x= .agg (TFrac.c r)):=by
 refine does_zy (X:=⟨Try.prog,tt,Try.f76.ntmps, [], [], [], [], [], []⟩) pok _ Try.func76 rfl rfl (Nat.le_of_ble_eq_true rfl) ?_
 cases hm
 exact RetY.le (leD.refl _)
def m_moon_horizon_L1 (l:(List TRoof)) (bearing:TFrac):(Int×Int)→Option (Sum (Int×Int) (Int×Int)):=fun(top14,v15)=>
 if(decide (v15<(l.length:Int)))=true then
  Option.bind (idx l v15) fun e30=>
  Option.bind (m_moon_whole e30.From) fun x32=>
  Option.bind (m_moon_compare x32 bearing) fun x34=>
  if(decide (x34≤0))=true then
   Option.bind (m_moon_whole e30.To) fun x37=>
   Option.bind (m_moon_compare x37 bearing) fun x39=>
   if(decide (x39>0))=true then
    some (.inl ((if e30.Top>top14 then e30.Top else top14),(W (v15+1))))
   else
    some (.inl (top14,(W (v15+1))))
  else
   some (.inl (top14,(W (v15+1))))
 else
  some (.inr (top14,v15))
def m_moon_horizon (l:(List TRoof)) (bearing:TFrac):Option Int:=
 Option.bind (loopF (m_moon_horizon_L1 l bearing) (0,0)) fun(top42,v43)=>
 some top42
theorem d_moon_horizon (l:(List TRoof)) (bearing:TFrac) (r:Int) (hm:m_moon_horizon l bearing=some r):Does Try.prog 69 [lD 3 l TRoof.c, .agg (TFrac.c bearing)] (fun x=>x=DI r):=by
 refine does_zy (X:=⟨Try.prog,tt,Try.f69.ntmps,pl69, [], [], [], [], []⟩) pok _ Try.func69 rfl rfl (Nat.le_of_ble_eq_true rfl) ?_
 obtain⟨ev44,he,hk45⟩:=bd_some hm
 refine LoopY.ofL (m_moon_horizon_L1 l bearing) (fun(top14,v15)=>⟨[(0,lD 3 l TRoof.c),(1, .agg [DI bearing.Num,DI bearing.Den]),(3, .own 0 0),(4,DI 0),(5,DI top14),(8,lD 3 l TRoof.c),(9,DI (l.length:Int)),(10,DI v15)], [(0, .blk [DI bearing.Num,DI bearing.Den] 37)],1⟩) (0,0) (SubY.of 1 rfl ⟨tR rfl,tR rfl,tR rfl,tR rfl,tR rfl,tR rfl,tR rfl,tR rfl,trivial⟩ ⟨hR rfl,trivial⟩) he ?_
 rintro fu46 ⟨top14,v15⟩ b hm hi47
 revert hm
 refine VIf.b (fun h48 hm=> ?_) (fun h48 hm=> ?_)
 obtain⟨e49,hx50,hm⟩:=bd_some hm
 refine⟨_,el_idx (fun _=>rfl) hx50, ?_⟩
 refine⟨rfl, ?_⟩
 obtain⟨x51,hx52,hm⟩:=bd_some hm
 refine CallY.det (d_moon_whole e49.From _ hx52) ?_
 obtain⟨x53,hx54,hm⟩:=bd_some hm
 refine CallY.det (d_moon_compare x51 bearing _ hx54) ?_
 revert hm
 refine VIf.b (fun h55 hm=> ?_) (fun h55 hm=> ?_)
 obtain⟨x56,hx57,hm⟩:=bd_some hm
 refine CallY.det (d_moon_whole e49.To _ hx57) ?_
 obtain⟨x58,hx59,hm⟩:=bd_some hm
 refine CallY.det (d_moon_compare x56 bearing _ hx59) ?_
 revert hm
 refine VIf.b (fun h60 hm=> ?_) (fun h60 hm=> ?_)
 cases hm
 exact⟨(_,((if e49.Top>top14 then e49.Top else top14),(W (v15+1)))),SubY.of 1 rfl ⟨tR rfl,tR rfl,tR rfl,tR rfl,tR rfl,tR rfl,tR rfl,tR rfl,trivial⟩ ⟨hR rfl,trivial⟩,hi47,Nat.lt_succ_self _⟩
 cases hm
 exact⟨(_,(top14,(W (v15+1)))),SubY.of 1 rfl ⟨tR rfl,tR rfl,tR rfl,tR rfl,tR rfl,tR rfl,tR rfl,tR rfl,trivial⟩ ⟨hR rfl,trivial⟩,hi47,Nat.lt_succ_self _⟩
 cases hm
 exact⟨(_,(top14,(W (v15+1)))),SubY.of 1 rfl ⟨tR rfl,tR rfl,tR rfl,tR rfl,tR rfl,tR rfl,tR rfl,tR rfl,trivial⟩ ⟨hR rfl,trivial⟩,hi47,Nat.lt_succ_self _⟩
 cases hm
 cases hi47
 have hm:=hk45
 cases hm
 exact RetY.le (leD.refl _)
def m_moon_bearingOf (r_:TRow):Option TFrac:=
 some r_.Bearing
theorem d_moon_bearingOf (r_:TRow) (r:TFrac) (hm:m_moon_bearingOf r_=some r):Does Try.prog 70 [.agg (TRow.c r_)] (fun x=>x= .agg (TFrac.c r)):=by
 refine does_zy (X:=⟨Try.prog,tt,Try.f70.ntmps, [], [], [], [], [], []⟩) pok _ Try.func70 rfl rfl (Nat.le_of_ble_eq_true rfl) ?_
 cases hm
 exact RetY.le (leD.refl _)
def m_moon_at__moon_heightOf_L1 (s:TSheet) (minute:Int):Int→Option (Sum Int Int):=fun i4=>
 Option.bind (idx s.Rows (W (i4+1))) fun e8=>
 if(decide (e8.Minute<minute))=true then
  some (.inl (W (i4+1)))
 else
  some (.inr i4)
def m_moon_at__moon_heightOf (s:TSheet) (minute:Int):Option TFrac:=
 Option.bind (loopF (m_moon_at__moon_heightOf_L1 s minute) 0) fun i11=>
 Option.bind (idx s.Rows i11) fun e12=>
 Option.bind (idx s.Rows (W (i11+1))) fun e14=>
 Option.bind (m_moon_heightOf e12) fun x16=>
 Option.bind (m_moon_heightOf e14) fun x18=>
 Option.bind (m_moon_between x16 x18 (W (minute-e12.Minute)) (W (e14.Minute-e12.Minute))) fun x20=>
 some x20
theorem d_moon_at__moon_heightOf (s:TSheet) (minute:Int) (r:TFrac) (hm:m_moon_at__moon_heightOf s minute=some r):Does Try.prog 66 [.agg (TSheet.c s),DI minute, .fn 67 [] []] (fun x=>x= .agg (TFrac.c r)):=by
 refine does_zy (X:=⟨Try.prog,tt,Try.f66.ntmps,pl66, [], [], [], [], []⟩) pok _ Try.func66 rfl rfl (Nat.le_of_ble_eq_true rfl) ?_
 obtain⟨ev22,he,hk23⟩:=bd_some hm
 refine LoopY.ofL (m_moon_at__moon_heightOf_L1 s minute) (fun i4=>⟨[(0, .agg [DI s.Source,DI s.Night,DI s.Known,DI s.Until,lD 5 s.Rows TRow.c,DI s.Off.Num,DI s.Off.Den,DI s.Light.Lo,DI s.Light.Hi]),(1,DI minute),(2, .fn 67 [] []),(3, .own 0 0),(6, .own 1 0),(7,DI i4)], [(0, .blk [DI s.Source,DI s.Night,DI s.Known,DI s.Until,lD 5 s.Rows TRow.c,DI s.Off.Num,DI s.Off.Den,DI s.Light.Lo,DI s.Light.Hi] 41),(1, .blk [DI 0,DI 0] 37)],2⟩) 0 (SubY.of 2 rfl ⟨tR rfl,tR rfl,tR rfl,tR rfl,tR rfl,tR rfl,trivial⟩ ⟨hR rfl,hR rfl,trivial⟩) he ?_
 rintro fu24 i4 b hm hi25
 obtain⟨e26,hx27,hm⟩:=bd_some hm
 refine⟨_,el_idx (fun _=>rfl) hx27, ?_⟩
 revert hm
 refine VIf.b (fun h28 hm=> ?_) (fun h28 hm=> ?_)
 cases hm
 exact⟨(_,(W (i4+1))),SubY.of 2 rfl ⟨tR rfl,tR rfl,tR rfl,tR rfl,tR rfl,tR rfl,trivial⟩ ⟨hR rfl,hR rfl,trivial⟩,hi25,Nat.lt_succ_self _⟩
 cases hm
 have hm:=hk23
 rw [show ev22=i4 from by first|exact hi25|exact hi25.symm]at hm
 refine⟨rfl, ?_⟩
 obtain⟨e29,hx30,hm⟩:=bd_some hm
 refine⟨_,el_idx (fun _=>rfl) hx30, ?_⟩
 obtain⟨e31,hx32,hm⟩:=bd_some hm
 refine⟨_,el_idx (fun _=>rfl) hx32, ?_⟩
 refine⟨rfl, ?_⟩
 obtain⟨x33,hx34,hm⟩:=bd_some hm
 refine CallY.det (d_moon_heightOf e29 _ hx34) ?_
 obtain⟨x35,hx36,hm⟩:=bd_some hm
 refine CallY.det (d_moon_heightOf e31 _ hx36) ?_
 obtain⟨x37,hx38,hm⟩:=bd_some hm
 refine CallY.det (d_moon_between x33 x35 (W (minute-e29.Minute)) (W (e31.Minute-e29.Minute)) _ hx38) ?_
 cases hm
 exact RetY.le (leD.refl _)
def m_moon_at__moon_bearingOf_L1 (s:TSheet) (minute:Int):Int→Option (Sum Int Int):=fun i4=>
 Option.bind (idx s.Rows (W (i4+1))) fun e8=>
 if(decide (e8.Minute<minute))=true then
  some (.inl (W (i4+1)))
 else
  some (.inr i4)
def m_moon_at__moon_bearingOf (s:TSheet) (minute:Int):Option TFrac:=
 Option.bind (loopF (m_moon_at__moon_bearingOf_L1 s minute) 0) fun i11=>
 Option.bind (idx s.Rows i11) fun e12=>
 Option.bind (idx s.Rows (W (i11+1))) fun e14=>
 Option.bind (m_moon_bearingOf e12) fun x16=>
 Option.bind (m_moon_bearingOf e14) fun x18=>
 Option.bind (m_moon_between x16 x18 (W (minute-e12.Minute)) (W (e14.Minute-e12.Minute))) fun x20=>
 some x20
theorem d_moon_at__moon_bearingOf (s:TSheet) (minute:Int) (r:TFrac) (hm:m_moon_at__moon_bearingOf s minute=some r):Does Try.prog 66 [.agg (TSheet.c s),DI minute, .fn 70 [] []] (fun x=>x= .agg (TFrac.c r)):=by
 refine does_zy (X:=⟨Try.prog,tt,Try.f66.ntmps,pl66, [], [], [], [], []⟩) pok _ Try.func66 rfl rfl (Nat.le_of_ble_eq_true rfl) ?_
 obtain⟨ev22,he,hk23⟩:=bd_some hm
 refine LoopY.ofL (m_moon_at__moon_bearingOf_L1 s minute) (fun i4=>⟨[(0, .agg [DI s.Source,DI s.Night,DI s.Known,DI s.Until,lD 5 s.Rows TRow.c,DI s.Off.Num,DI s.Off.Den,DI s.Light.Lo,DI s.Light.Hi]),(1,DI minute),(2, .fn 70 [] []),(3, .own 0 0),(6, .own 1 0),(7,DI i4)], [(0, .blk [DI s.Source,DI s.Night,DI s.Known,DI s.Until,lD 5 s.Rows TRow.c,DI s.Off.Num,DI s.Off.Den,DI s.Light.Lo,DI s.Light.Hi] 41),(1, .blk [DI 0,DI 0] 37)],2⟩) 0 (SubY.of 2 rfl ⟨tR rfl,tR rfl,tR rfl,tR rfl,tR rfl,tR rfl,trivial⟩ ⟨hR rfl,hR rfl,trivial⟩) he ?_
 rintro fu24 i4 b hm hi25
 obtain⟨e26,hx27,hm⟩:=bd_some hm
 refine⟨_,el_idx (fun _=>rfl) hx27, ?_⟩
 revert hm
 refine VIf.b (fun h28 hm=> ?_) (fun h28 hm=> ?_)
 cases hm
 exact⟨(_,(W (i4+1))),SubY.of 2 rfl ⟨tR rfl,tR rfl,tR rfl,tR rfl,tR rfl,tR rfl,trivial⟩ ⟨hR rfl,hR rfl,trivial⟩,hi25,Nat.lt_succ_self _⟩
 cases hm
 have hm:=hk23
 rw [show ev22=i4 from by first|exact hi25|exact hi25.symm]at hm
 refine⟨rfl, ?_⟩
 obtain⟨e29,hx30,hm⟩:=bd_some hm
 refine⟨_,el_idx (fun _=>rfl) hx30, ?_⟩
 obtain⟨e31,hx32,hm⟩:=bd_some hm
 refine⟨_,el_idx (fun _=>rfl) hx32, ?_⟩
 refine⟨rfl, ?_⟩
 obtain⟨x33,hx34,hm⟩:=bd_some hm
 refine CallY.det (d_moon_bearingOf e29 _ hx34) ?_
 obtain⟨x35,hx36,hm⟩:=bd_some hm
 refine CallY.det (d_moon_bearingOf e31 _ hx36) ?_
 obtain⟨x37,hx38,hm⟩:=bd_some hm
 refine CallY.det (d_moon_between x33 x35 (W (minute-e29.Minute)) (W (e31.Minute-e29.Minute)) _ hx38) ?_
 cases hm
 exact RetY.le (leD.refl _)
def m_moon_margin (s:TSheet) (l:(List TRoof)) (minute:Int):Option TFrac:=
 Option.bind (m_moon_at__moon_heightOf s minute) fun x1=>
 Option.bind (m_moon_at__moon_bearingOf s minute) fun x3=>
 Option.bind (m_moon_horizon l x3) fun x5=>
 Option.bind (m_moon_least (W (x1.Num-(W (x5*x1.Den)))) x1.Den) fun x7=>
 some x7
theorem d_moon_margin (s:TSheet) (l:(List TRoof)) (minute:Int) (r:TFrac) (hm:m_moon_margin s l minute=some r):Does Try.prog 48 [.agg (TSheet.c s),lD 3 l TRoof.c,DI minute] (fun x=>x= .agg (TFrac.c r)):=by
 refine does_zy (X:=⟨Try.prog,tt,Try.f48.ntmps,pl48, [], [], [], [], []⟩) pok _ Try.func48 rfl rfl (Nat.le_of_ble_eq_true rfl) ?_
 obtain⟨x1,hx2,hm⟩:=bd_some hm
 refine CallY.det (d_moon_at__moon_heightOf s minute _ hx2) ?_
 refine⟨rfl, ?_⟩
 obtain⟨x3,hx4,hm⟩:=bd_some hm
 refine CallY.det (d_moon_at__moon_bearingOf s minute _ hx4) ?_
 obtain⟨x5,hx6,hm⟩:=bd_some hm
 refine CallY.det (d_moon_horizon l x3 _ hx6) ?_
 obtain⟨x7,hx8,hm⟩:=bd_some hm
 refine CallY.det (d_moon_least (W (x1.Num-(W (x5*x1.Den)))) x1.Den _ hx8) ?_
 cases hm
 exact RetY.le (leD.refl _)
def m_moon_minus (x:TFrac):Option TFrac:=
 some (⟨(W (0-x.Num)),x.Den⟩:TFrac)
theorem d_moon_minus (x:TFrac) (r:TFrac) (hm:m_moon_minus x=some r):Does Try.prog 60 [.agg (TFrac.c x)] (fun x=>x= .agg (TFrac.c r)):=by
 refine does_zy (X:=⟨Try.prog,tt,Try.f60.ntmps, [], [], [], [], [], []⟩) pok _ Try.func60 rfl rfl (Nat.le_of_ble_eq_true rfl) ?_
 cases hm
 exact RetY.le (leD.refl _)
def m_moon_known_slipOf_L1 (k:Tknown) (l:(List TSighting)):(Int×Int×Int×Bool×Int×Int)→Option (Sum (Int×Int×Int×Bool×Int×Int) (Int×Int×Int×Bool×Int×Int)):=fun(v28,v29,v30,v31,v32,v33)=>
 if(decide (v28<(l.length:Int)))=true then
  Option.bind (idx l v28) fun e56=>
  Option.bind (m_moon_margin k.Sheet k.roofs e56.Minute) fun x58=>
  Option.bind (m_moon_minus x58) fun x60=>
  Option.bind (m_moon_reduced x60) fun x62=>
  if e56.Above=true then
   Option.bind (m_moon_compare x62 (⟨v29,v30⟩:TFrac)) fun x65=>
   if(decide (x65≥0))=true then
    some (.inl ((W (v28+1)),x62.Num,x62.Den,true,v32,v33))
   else
    if(!e56.Above)=true then
     Option.bind (m_moon_compare x62 (⟨v32,v33⟩:TFrac)) fun x69=>
     if(decide (x69<0))=true then
      some (.inl ((W (v28+1)),v29,v30,v31,x62.Num,x62.Den))
     else
      some (.inl ((W (v28+1)),v29,v30,v31,v32,v33))
    else
     some (.inl ((W (v28+1)),v29,v30,v31,v32,v33))
  else
   if(!e56.Above)=true then
    Option.bind (m_moon_compare x62 (⟨v32,v33⟩:TFrac)) fun x73=>
    if(decide (x73<0))=true then
     some (.inl ((W (v28+1)),v29,v30,v31,x62.Num,x62.Den))
    else
     some (.inl ((W (v28+1)),v29,v30,v31,v32,v33))
   else
    some (.inl ((W (v28+1)),v29,v30,v31,v32,v33))
 else
  some (.inr (v28,v29,v30,v31,v32,v33))
def m_moon_known_slipOf (k:Tknown) (l:(List TSighting)):Option TSlip:=
 Option.bind (m_moon_minus k.Sheet.Off) fun x1=>
 Option.bind (m_moon_reduced x1) fun x3=>
 Option.bind (m_moon_reduced k.Sheet.Off) fun x5=>
 Option.bind (loopF (m_moon_known_slipOf_L1 k l) (0,x3.Num,x3.Den,false,x5.Num,x5.Den)) fun(v76,v77,v78,v79,v80,v81)=>
 some (⟨(⟨v77,v78⟩:TFrac),v79,(⟨v80,v81⟩:TFrac)⟩:TSlip)
theorem d_moon_known_slipOf (k:Tknown) (l:(List TSighting)) (r:TSlip) (hm:m_moon_known_slipOf k l=some r):Does Try.prog 45 [.ptr (Tknown.c k) 0,lD 6 l TSighting.c] (fun x=>x= .agg (TSlip.c r)):=by
 refine does_zy (X:=⟨Try.prog,tt,Try.f45.ntmps,pl45, [], [], [], [], []⟩) pok _ Try.func45 rfl rfl (Nat.le_of_ble_eq_true rfl) ?_
 refine⟨rfl, ?_⟩
 obtain⟨x1,hx2,hm⟩:=bd_some hm
 refine CallY.det (d_moon_minus k.Sheet.Off _ hx2) ?_
 obtain⟨x3,hx4,hm⟩:=bd_some hm
 refine CallY.det (d_moon_reduced x1 _ hx4) ?_
 obtain⟨x5,hx6,hm⟩:=bd_some hm
 refine CallY.det (d_moon_reduced k.Sheet.Off _ hx6) ?_
 obtain⟨ev82,he,hk83⟩:=bd_some hm
 refine LoopY.ofL (m_moon_known_slipOf_L1 k l) (fun(v28,v29,v30,v31,v32,v33)=>⟨[(0, .ptr [DI k.Sheet.Source,DI k.Sheet.Night,DI k.Sheet.Known,DI k.Sheet.Until,lD 5 k.Sheet.Rows TRow.c,DI k.Sheet.Off.Num,DI k.Sheet.Off.Den,DI k.Sheet.Light.Lo,DI k.Sheet.Light.Hi,lD 3 k.roofs TRoof.c,lD 6 k.sightings TSighting.c,DI k.slip.Lo.Num,DI k.slip.Lo.Den,DB k.slip.Open,DI k.slip.Hi.Num,DI k.slip.Hi.Den] 0),(1,lD 6 l TSighting.c),(4, .own 0 0),(5, .own 1 0),(23,lD 6 l TSighting.c),(24,DI (l.length:Int)),(25,DI v28)], [(0, .blk [DI 0,DI 0,DB false,DI 0,DI 0] 47),(1, .blk [DI v29,DI v30,DB v31,DI v32,DI v33] 47)],2⟩) (0,x3.Num,x3.Den,false,x5.Num,x5.Den) (SubY.of 2 rfl ⟨tR rfl,tR rfl,tR rfl,tR rfl,tR rfl,tR rfl,tR rfl,trivial⟩ ⟨hR rfl,hR rfl,trivial⟩) he ?_
 rintro fu84 ⟨v28,v29,v30,v31,v32,v33⟩ b hm hi85
 revert hm
 refine VIf.b (fun h86 hm=> ?_) (fun h86 hm=> ?_)
 obtain⟨e87,hx88,hm⟩:=bd_some hm
 refine⟨_,el_idx (fun _=>rfl) hx88, ?_⟩
 refine⟨rfl, ?_⟩
 obtain⟨x89,hx90,hm⟩:=bd_some hm
 refine CallY.det (d_moon_margin k.Sheet k.roofs e87.Minute _ hx90) ?_
 obtain⟨x91,hx92,hm⟩:=bd_some hm
 refine CallY.det (d_moon_minus x89 _ hx92) ?_
 obtain⟨x93,hx94,hm⟩:=bd_some hm
 refine CallY.det (d_moon_reduced x91 _ hx94) ?_
 revert hm
 refine VIf.b (fun h95 hm=> ?_) (fun h95 hm=> ?_)
 obtain⟨x96,hx97,hm⟩:=bd_some hm
 refine CallY.det (d_moon_compare x93 ((⟨v29,v30⟩:TFrac)) _ hx97) ?_
 revert hm
 refine VIf.b (fun h98 hm=> ?_) (fun h98 hm=> ?_)
 cases hm
 exact⟨(_,((W (v28+1)),x93.Num,x93.Den,true,v32,v33)),SubY.of 2 rfl ⟨tR rfl,tR rfl,tR rfl,tR rfl,tR rfl,tR rfl,tR rfl,trivial⟩ ⟨hR rfl,hR rfl,trivial⟩,hi85,Nat.lt_succ_self _⟩
 revert hm
 refine VIf.b (fun h99 hm=> ?_) (fun h99 hm=> ?_)
 obtain⟨x100,hx101,hm⟩:=bd_some hm
 refine CallY.det (d_moon_compare x93 ((⟨v32,v33⟩:TFrac)) _ hx101) ?_
 revert hm
 refine VIf.b (fun h102 hm=> ?_) (fun h102 hm=> ?_)
 cases hm
 exact⟨(_,((W (v28+1)),v29,v30,v31,x93.Num,x93.Den)),SubY.of 2 rfl ⟨tR rfl,tR rfl,tR rfl,tR rfl,tR rfl,tR rfl,tR rfl,trivial⟩ ⟨hR rfl,hR rfl,trivial⟩,hi85,Nat.lt_succ_self _⟩
 cases hm
 exact⟨(_,((W (v28+1)),v29,v30,v31,v32,v33)),SubY.of 2 rfl ⟨tR rfl,tR rfl,tR rfl,tR rfl,tR rfl,tR rfl,tR rfl,trivial⟩ ⟨hR rfl,hR rfl,trivial⟩,hi85,Nat.lt_succ_self _⟩
 cases hm
 exact⟨(_,((W (v28+1)),v29,v30,v31,v32,v33)),SubY.of 2 rfl ⟨tR rfl,tR rfl,tR rfl,tR rfl,tR rfl,tR rfl,tR rfl,trivial⟩ ⟨hR rfl,hR rfl,trivial⟩,hi85,Nat.lt_succ_self _⟩
 revert hm
 refine VIf.b (fun h103 hm=> ?_) (fun h103 hm=> ?_)
 obtain⟨x104,hx105,hm⟩:=bd_some hm
 refine CallY.det (d_moon_compare x93 ((⟨v32,v33⟩:TFrac)) _ hx105) ?_
 revert hm
 refine VIf.b (fun h106 hm=> ?_) (fun h106 hm=> ?_)
 cases hm
 exact⟨(_,((W (v28+1)),v29,v30,v31,x93.Num,x93.Den)),SubY.of 2 rfl ⟨tR rfl,tR rfl,tR rfl,tR rfl,tR rfl,tR rfl,tR rfl,trivial⟩ ⟨hR rfl,hR rfl,trivial⟩,hi85,Nat.lt_succ_self _⟩
 cases hm
 exact⟨(_,((W (v28+1)),v29,v30,v31,v32,v33)),SubY.of 2 rfl ⟨tR rfl,tR rfl,tR rfl,tR rfl,tR rfl,tR rfl,tR rfl,trivial⟩ ⟨hR rfl,hR rfl,trivial⟩,hi85,Nat.lt_succ_self _⟩
 cases hm
 exact⟨(_,((W (v28+1)),v29,v30,v31,v32,v33)),SubY.of 2 rfl ⟨tR rfl,tR rfl,tR rfl,tR rfl,tR rfl,tR rfl,tR rfl,trivial⟩ ⟨hR rfl,hR rfl,trivial⟩,hi85,Nat.lt_succ_self _⟩
 cases hm
 cases hi85
 have hm:=hk83
 cases hm
 exact RetY.le (leD.refl _)
def m_moon_look_L1 (minutes:(List Int)):Int→Option (Sum Int (Sum Int ((Option Tknown)×Int))):=fun v16=>
 if(decide (v16<(minutes.length:Int)))=true then
  Option.bind (idx minutes v16) fun e28=>
  Option.bind (m_moon_isMinute e28) fun x30=>
  if(!x30)=true then
   some (.inr (.inr (none,1)))
  else
   if(decide (v16>0))=true then
    Option.bind (idx minutes (W (v16-1))) fun e34=>
    if(decide (e34>e28))=true then
     some (.inr (.inr (none,1)))
    else
     some (.inl (W (v16+1)))
   else
    some (.inl (W (v16+1)))
 else
  some (.inr (.inl v16))
def m_moon_look (s:TSky) (night:Int) (as_:Int) (minutes:(List Int)):Option ((Option Tknown)×Int):=
 Option.bind (m_moon_Check s) fun x1=>
 if(x1 !=0)=true then
  some (none,x1)
 else
  Option.bind (m_moon_isNight night) fun x4=>
  if(!x4)=true then
   some (none,6)
  else
   Option.bind (m_moon_isNight as_) fun x7=>
   if(!x7)=true then
    some (none,6)
   else
    Option.bind (loopF (m_moon_look_L1 minutes) 0) fun e=>
    match e with
    | .inl v37=>
     Option.bind (m_moon_inForce s night as_) fun⟨x38,x39⟩=>
     if(!x39)=true then
      some (none,25)
     else
      Option.bind (m_moon_sighted s night as_) fun x42=>
      Option.bind (m_moon_known_slipOf (⟨x38,s.Roofs,x42,(⟨(⟨0,0⟩:TFrac),false,(⟨0,0⟩:TFrac)⟩:TSlip)⟩:Tknown) x42) fun x44=>
      some ((some (⟨x38,s.Roofs,x42,x44⟩:Tknown)),0)
    | .inr rr46=>
     some rr46
theorem d_moon_look (s:TSky) (night:Int) (as_:Int) (minutes:(List Int)) (r:((Option Tknown)×Int)) (hm:m_moon_look s night as_ minutes=some r):Does Try.prog 18 [.agg (TSky.c s),DI night,DI as_,lD 1 minutes cI] (fun x=>x= .tup [optp Tknown.c r.1,DI r.2]):=by
 refine does_zy (X:=⟨Try.prog,tt,Try.f18.ntmps,pl18, [], [], [], [], []⟩) pok _ Try.func18 rfl rfl (Nat.le_of_ble_eq_true rfl) ?_
 obtain⟨x1,hx2,hm⟩:=bd_some hm
 refine CallY.det (d_moon_Check s _ hx2) ?_
 revert hm
 refine VIf.b (fun h3 hm=> ?_) (fun h3 hm=> ?_)
 cases hm
 exact RetY.le (leD.refl _)
 obtain⟨x4,hx5,hm⟩:=bd_some hm
 refine CallY.det (d_moon_isNight night _ hx5) ?_
 revert hm
 refine VIf.b (fun h6 hm=> ?_) (fun h6 hm=> ?_)
 cases hm
 exact RetY.le (leD.refl _)
 obtain⟨x7,hx8,hm⟩:=bd_some hm
 refine CallY.det (d_moon_isNight as_ _ hx8) ?_
 revert hm
 refine VIf.b (fun h9 hm=> ?_) (fun h9 hm=> ?_)
 cases hm
 exact RetY.le (leD.refl _)
 obtain⟨ev47,he,hk48⟩:=bd_some hm
 refine LoopY.ofL (m_moon_look_L1 minutes) (fun v16=>⟨[(0, .agg [lD 9 s.Sheets TSheet.c,lD 3 s.Roofs TRoof.c,lD 6 s.Sightings TSighting.c]),(1,DI night),(2,DI as_),(3,lD 1 minutes cI),(4, .own 0 0),(8, .v (.pointer none)),(9,DI 0),(10,DI x1),(19,DB (x1 !=0)),(28,DB (!x7)),(29,lD 1 minutes cI),(30,DI (minutes.length:Int)),(31,DI v16)], [(0, .blk [lD 9 s.Sheets TSheet.c,lD 3 s.Roofs TRoof.c,lD 6 s.Sightings TSighting.c] 32)],1⟩) 0 (SubY.of 1 rfl ⟨tR rfl,tR rfl,tR rfl,tR rfl,tR rfl,tR rfl,tR rfl,tR rfl,tR rfl,tR rfl,tR rfl,tR rfl,tR rfl,trivial⟩ ⟨hR rfl,trivial⟩) he ?_
 rintro fu49 v16 b hm hi50
 revert hm
 refine VIf.b (fun h51 hm=> ?_) (fun h51 hm=> ?_)
 obtain⟨e52,hx53,hm⟩:=bd_some hm
 refine⟨_,el_idx (fun _=>rfl) hx53, ?_⟩
 obtain⟨x54,hx55,hm⟩:=bd_some hm
 refine CallY.det (d_moon_isMinute e52 _ hx55) ?_
 revert hm
 refine VIf.b (fun h56 hm=> ?_) (fun h56 hm=> ?_)
 cases hm
 cases hi50
 have hm:=hk48
 cases hm
 exact RetY.le (leD.refl _)
 revert hm
 refine VIf.b (fun h57 hm=> ?_) (fun h57 hm=> ?_)
 obtain⟨e58,hx59,hm⟩:=bd_some hm
 refine⟨_,el_idx (fun _=>rfl) hx59, ?_⟩
 revert hm
 refine VIf.b (fun h60 hm=> ?_) (fun h60 hm=> ?_)
 cases hm
 cases hi50
 have hm:=hk48
 cases hm
 exact RetY.le (leD.refl _)
 cases hm
 exact⟨(_,(W (v16+1))),SubY.of 1 rfl ⟨tR rfl,tR rfl,tR rfl,tR rfl,tR rfl,tR rfl,tR rfl,tR rfl,tR rfl,tR rfl,tR rfl,tR rfl,tR rfl,trivial⟩ ⟨hR rfl,trivial⟩,hi50,Nat.lt_succ_self _⟩
 cases hm
 exact⟨(_,(W (v16+1))),SubY.of 1 rfl ⟨tR rfl,tR rfl,tR rfl,tR rfl,tR rfl,tR rfl,tR rfl,tR rfl,tR rfl,tR rfl,tR rfl,tR rfl,tR rfl,trivial⟩ ⟨hR rfl,trivial⟩,hi50,Nat.lt_succ_self _⟩
 cases hm
 cases hi50
 have hm:=hk48
 obtain⟨⟨x61,x62⟩,hx63,hm⟩:=bd_some hm
 refine CallY.det (d_moon_inForce s night as_ _ hx63) ?_
 revert hm
 refine VIf.b (fun h64 hm=> ?_) (fun h64 hm=> ?_)
 cases hm
 exact RetY.le (leD.refl _)
 refine⟨rfl, ?_⟩
 obtain⟨x65,hx66,hm⟩:=bd_some hm
 refine CallY.det (d_moon_sighted s night as_ _ hx66) ?_
 obtain⟨x67,hx68,hm⟩:=bd_some hm
 refine CallOwn.det (d_moon_known_slipOf ((⟨x61,s.Roofs,x65,(⟨(⟨0,0⟩:TFrac),false,(⟨0,0⟩:TFrac)⟩:TSlip)⟩:Tknown)) x65 _ hx68) ?_
 cases hm
 exact RetY.le (leD.refl _)
def m_slices_Clone_api_Row_api_Row (s:List TRow):Option (List TRow):=gd (s.length*40≤140737488355328∧s.length≤9223372036854775807) (some s)
theorem d_slices_Clone_api_Row_api_Row (s:List TRow) (r:List TRow) (hm:m_slices_Clone_api_Row_api_Row s=some r):Does Try.prog 19 [.lst 5 s.length (s.flatMap TRow.c)] (fun x=>x= .lst 5 r.length (r.flatMap TRow.c)):=by
 obtain⟨hg,hm⟩:=gd_some hm
 cases hm
 refine does_zy (X:=⟨Try.prog,tt,Try.f19.ntmps, [], [], [], [], [], []⟩) pok _ Try.func19 rfl rfl (Nat.le_of_ble_eq_true rfl) ?_
 intro b hb
 refine VIf.mk (fun h=> ?_) (fun h=> ?_)
 · have h0:=hb h
   have h1:s= []:=List.eq_nil_of_length_eq_zero h0
   subst h1
   exact RetY.le leD.nil
 · refine⟨[],0,⟨rfl,rfl⟩, ?_⟩
   exact⟨by omega,s.flatMap TRow.c,s.length,⟨rfl,Nat.zero_add _⟩,RetY.le (leD.refl _)⟩
theorem u_slices_Clone_api_Row_api_Row (s:List TRow) (r:List TRow) (hm:m_slices_Clone_api_Row_api_Row s=some r):DoesU Try.prog 19 [.lst 5 s.length (s.flatMap TRow.c)] 5 r.length (r.flatMap TRow.c) 74:=by
 obtain⟨hg,hm⟩:=gd_some hm
 cases hm
 refine does_zu (X:=⟨Try.prog,tt,Try.f19.ntmps, [], [], [], [], [], []⟩) pok _ Try.func19 rfl rfl (Nat.le_of_ble_eq_true rfl) ?_
 intro b hb
 refine VIf.mk (fun h=> ?_) (fun h=> ?_)
 · have h0:=hb h
   have h1:s= []:=List.eq_nil_of_length_eq_zero h0
   subst h1
   exact⟨rfl,rfl⟩
 · refine⟨[],0,⟨rfl,rfl⟩, ?_⟩
   exact⟨by omega,s.flatMap TRow.c,s.length,⟨rfl,Nat.zero_add _⟩,⟨rfl,rfl⟩⟩
def m_moon_InForce (s:TSky) (night:Int) (known:Int):Option (TSheet×Int):=
 Option.bind (m_moon_look s night known []) fun⟨x1,x2⟩=>
 optM x1 (
  if(x2 !=0)=true then
   some ((⟨0,0,0,0, [],(⟨0,0⟩:TFrac),(⟨0,0⟩:TRange)⟩:TSheet),x2)
  else
   none) fun p4=>
 if(x2 !=0)=true then
  some ((⟨0,0,0,0, [],(⟨0,0⟩:TFrac),(⟨0,0⟩:TRange)⟩:TSheet),x2)
 else
  Option.bind (m_slices_Clone_api_Row_api_Row p4.Sheet.Rows) fun x7=>
  some ((⟨p4.Sheet.Source,p4.Sheet.Night,p4.Sheet.Known,p4.Sheet.Until,x7,p4.Sheet.Off,p4.Sheet.Light⟩:TSheet),0)
theorem d_moon_InForce (s:TSky) (night:Int) (known:Int) (r:(TSheet×Int)) (hm:m_moon_InForce s night known=some r):Does Try.prog 6 [.agg (TSky.c s),DI night,DI known] (fun x=>x= .tup [.agg (TSheet.c r.1),DI r.2]):=by
 refine does_zy (X:=⟨Try.prog,tt,Try.f6.ntmps, [], [], [], [], [], []⟩) pok _ Try.func6 rfl rfl (Nat.le_of_ble_eq_true rfl) ?_
 obtain⟨⟨x1,x2⟩,hx3,hm⟩:=bd_some hm
 refine CallY.det ((d_moon_look s night known [] _ hx3).le ⟨leD.refl _,leD.refl _,leD.refl _,leD.nil,trivial⟩) ?_
 rcases x1 with _|p4
 replace hm:=opt_none hm
 revert hm
 refine VIf.b (fun h5 hm=> ?_) (fun h5 hm=> ?_)
 cases hm
 exact RetY.le (⟨_,rfl,⟨⟨_,rfl,⟨leD.refl _,leD.refl _,leD.refl _,leD.refl _,leD.nil,leD.refl _,leD.refl _,leD.refl _,leD.refl _,trivial⟩⟩,leD.refl _,trivial⟩⟩)
 cases hm
 replace hm:=opt_some hm
 revert hm
 refine VIf.b (fun h6 hm=> ?_) (fun h6 hm=> ?_)
 cases hm
 exact RetY.le (⟨_,rfl,⟨⟨_,rfl,⟨leD.refl _,leD.refl _,leD.refl _,leD.refl _,leD.nil,leD.refl _,leD.refl _,leD.refl _,leD.refl _,trivial⟩⟩,leD.refl _,trivial⟩⟩)
 obtain⟨x7,hx8,hm⟩:=bd_some hm
 refine CallY.det (d_slices_Clone_api_Row_api_Row p4.Sheet.Rows _ hx8) ?_
 cases hm
 exact RetY.le (leD.refl _)
def m_moon_isEmpty (s:TSlip):Option Bool:=
 Option.bind (m_moon_compare s.Lo s.Hi) fun x1=>
 if(decide (x1>0))=true then
  some true
 else
  if(x1==0)=true then
   some s.Open
  else
   some false
theorem d_moon_isEmpty (s:TSlip) (r:Bool) (hm:m_moon_isEmpty s=some r):Does Try.prog 52 [.agg (TSlip.c s)] (fun x=>x=DB r):=by
 refine does_zy (X:=⟨Try.prog,tt,Try.f52.ntmps, [], [], [], [], [], []⟩) pok _ Try.func52 rfl rfl (Nat.le_of_ble_eq_true rfl) ?_
 obtain⟨x1,hx2,hm⟩:=bd_some hm
 refine CallY.det (d_moon_compare s.Lo s.Hi _ hx2) ?_
 revert hm
 refine VIf.b (fun h3 hm=> ?_) (fun h3 hm=> ?_)
 cases hm
 exact RetY.le (leD.refl _)
 revert hm
 refine VIf.b (fun h4 hm=> ?_) (fun h4 hm=> ?_)
 cases hm
 exact RetY.le (leD.refl _)
 cases hm
 exact RetY.le (leD.refl _)
def m_moon_clearly (s:TSky) (night:Int) (as_:Int) (minutes:(List Int)):Option ((Option Tknown)×Int):=
 Option.bind (m_moon_look s night as_ minutes) fun⟨x1,x2⟩=>
 optM x1 (
  if(x2 !=0)=true then
   some (none,x2)
  else
   none) fun p4=>
 if(x2 !=0)=true then
  some (none,x2)
 else
  Option.bind (m_moon_isEmpty p4.slip) fun x7=>
  if x7=true then
   some (none,26)
  else
   some ((some p4),0)
theorem d_moon_clearly (s:TSky) (night:Int) (as_:Int) (minutes:(List Int)) (r:((Option Tknown)×Int)) (hm:m_moon_clearly s night as_ minutes=some r):Does Try.prog 29 [.agg (TSky.c s),DI night,DI as_,lD 1 minutes cI] (fun x=>x= .tup [optp Tknown.c r.1,DI r.2]):=by
 refine does_zy (X:=⟨Try.prog,tt,Try.f29.ntmps, [], [], [], [], [], []⟩) pok _ Try.func29 rfl rfl (Nat.le_of_ble_eq_true rfl) ?_
 obtain⟨⟨x1,x2⟩,hx3,hm⟩:=bd_some hm
 refine CallY.det (d_moon_look s night as_ minutes _ hx3) ?_
 rcases x1 with _|p4
 replace hm:=opt_none hm
 revert hm
 refine VIf.b (fun h5 hm=> ?_) (fun h5 hm=> ?_)
 cases hm
 exact RetY.le (leD.refl _)
 cases hm
 replace hm:=opt_some hm
 revert hm
 refine VIf.b (fun h6 hm=> ?_) (fun h6 hm=> ?_)
 cases hm
 exact RetY.le (leD.refl _)
 obtain⟨x7,hx8,hm⟩:=bd_some hm
 refine CallY.det (d_moon_isEmpty p4.slip _ hx8) ?_
 revert hm
 refine VIf.b (fun h9 hm=> ?_) (fun h9 hm=> ?_)
 cases hm
 exact RetY.le (leD.refl _)
 cases hm
 exact RetY.le (leD.refl _)
def m_moon_Slip (s:TSky) (night:Int) (known:Int):Option (TSlip×Int):=
 Option.bind (m_moon_clearly s night known []) fun⟨x1,x2⟩=>
 optM x1 (
  if(x2 !=0)=true then
   some ((⟨(⟨0,0⟩:TFrac),false,(⟨0,0⟩:TFrac)⟩:TSlip),x2)
  else
   none) fun p4=>
 if(x2 !=0)=true then
  some ((⟨(⟨0,0⟩:TFrac),false,(⟨0,0⟩:TFrac)⟩:TSlip),x2)
 else
  some (p4.slip,0)
theorem d_moon_Slip (s:TSky) (night:Int) (known:Int) (r:(TSlip×Int)) (hm:m_moon_Slip s night known=some r):Does Try.prog 8 [.agg (TSky.c s),DI night,DI known] (fun x=>x= .tup [.agg (TSlip.c r.1),DI r.2]):=by
 refine does_zy (X:=⟨Try.prog,tt,Try.f8.ntmps, [], [], [], [], [], []⟩) pok _ Try.func8 rfl rfl (Nat.le_of_ble_eq_true rfl) ?_
 obtain⟨⟨x1,x2⟩,hx3,hm⟩:=bd_some hm
 refine CallY.det ((d_moon_clearly s night known [] _ hx3).le ⟨leD.refl _,leD.refl _,leD.refl _,leD.nil,trivial⟩) ?_
 rcases x1 with _|p4
 replace hm:=opt_none hm
 revert hm
 refine VIf.b (fun h5 hm=> ?_) (fun h5 hm=> ?_)
 cases hm
 exact RetY.le (leD.refl _)
 cases hm
 replace hm:=opt_some hm
 revert hm
 refine VIf.b (fun h6 hm=> ?_) (fun h6 hm=> ?_)
 cases hm
 exact RetY.le (leD.refl _)
 cases hm
 exact RetY.le (leD.refl _)
def m_moon_known_clash (k:Tknown) (l:(List TSighting)):Option Bool:=
 Option.bind (m_moon_known_slipOf k l) fun x1=>
 Option.bind (m_moon_isEmpty x1) fun x3=>
 some x3
theorem d_moon_known_clash (k:Tknown) (l:(List TSighting)) (r:Bool) (hm:m_moon_known_clash k l=some r):Does Try.prog 30 [.ptr (Tknown.c k) 0,lD 6 l TSighting.c] (fun x=>x=DB r):=by
 refine does_zy (X:=⟨Try.prog,tt,Try.f30.ntmps, [], [], [], [], [], []⟩) pok _ Try.func30 rfl rfl (Nat.le_of_ble_eq_true rfl) ?_
 obtain⟨x1,hx2,hm⟩:=bd_some hm
 refine CallY.det (d_moon_known_slipOf k l _ hx2) ?_
 obtain⟨x3,hx4,hm⟩:=bd_some hm
 refine CallY.det (d_moon_isEmpty x1 _ hx4) ?_
 cases hm
 exact RetY.le (leD.refl _)
def m_moon_Conflict_L1 (p4:Tknown):Int→Option (Sum Int (Sum Int ((List Int)×Int))):=fun v13=>
 if(decide (v13<(p4.sightings.length:Int)))=true then
  Option.bind (idx p4.sightings v13) fun e21=>
  Option.bind (m_moon_known_clash p4 ([e21]:List TSighting)) fun x23=>
  if x23=true then
   some (.inr (.inr (([e21.Source]:List Int),0)))
  else
   some (.inl (W (v13+1)))
 else
  some (.inr (.inl v13))
def m_moon_Conflict_L5 (p4:Tknown) (e79:TSighting) (sl81:(List TSighting)):Int→Option (Sum Int (Sum Int ((List Int)×Int))):=fun v88=>
 if(decide (v88<(sl81.length:Int)))=true then
  Option.bind (idx sl81 v88) fun e96=>
  Option.bind (m_moon_known_clash p4 ([e79,e96]:List TSighting)) fun x98=>
  if x98=true then
   some (.inr (.inr (([e79.Source,e96.Source]:List Int),0)))
  else
   some (.inl (W (v88+1)))
 else
  some (.inr (.inl v88))
def m_moon_Conflict_L4 (p4:Tknown):Int→Option (Sum Int (Sum Int ((List Int)×Int))):=fun v52=>
 if(decide (v52<(p4.sightings.length:Int)))=true then
  Option.bind (idx p4.sightings v52) fun e79=>
  gd ((0≤(W (v52+1))∧(W (v52+1))≤(p4.sightings.length:Int)))<|
  Option.bind (some (sub p4.sightings ((W (v52+1))).toNat p4.sightings.length)) fun sl81=>
  Option.bind (loopF (m_moon_Conflict_L5 p4 e79 sl81) 0) fun e=>
  match e with
  | .inl v101=>
   some (.inl (W (v52+1)))
  | .inr rr102=>
   some (.inr (.inr rr102))
 else
  some (.inr (.inl v52))
def m_moon_Conflict (s:TSky) (night:Int) (known:Int):Option ((List Int)×Int):=
 Option.bind (m_moon_look s night known []) fun⟨x1,x2⟩=>
 optM x1 (
  if(x2 !=0)=true then
   some ([],x2)
  else
   none) fun p4=>
 if(x2 !=0)=true then
  some ([],x2)
 else
  Option.bind (loopF (m_moon_Conflict_L1 p4) 0) fun e=>
  match e with
  | .inl v26=>
   Option.bind (loopF (m_moon_Conflict_L4 p4) 0) fun e=>
   match e with
   | .inl v113=>
    some ([],27)
   | .inr rr114=>
    some rr114
  | .inr rr154=>
   some rr154
theorem d_moon_Conflict (s:TSky) (night:Int) (known:Int) (r:((List Int)×Int)) (hm:m_moon_Conflict s night known=some r):Does Try.prog 9 [.agg (TSky.c s),DI night,DI known] (fun x=>x= .tup [lD 1 r.1 cI,DI r.2]):=by
 refine does_zy (X:=⟨Try.prog,tt,Try.f9.ntmps, [], [], [], [], [], []⟩) pok _ Try.func9 rfl rfl (Nat.le_of_ble_eq_true rfl) ?_
 obtain⟨⟨x1,x2⟩,hx3,hm⟩:=bd_some hm
 refine CallY.det ((d_moon_look s night known [] _ hx3).le ⟨leD.refl _,leD.refl _,leD.refl _,leD.nil,trivial⟩) ?_
 rcases x1 with _|p4
 replace hm:=opt_none hm
 revert hm
 refine VIf.b (fun h5 hm=> ?_) (fun h5 hm=> ?_)
 cases hm
 exact RetY.le (⟨_,rfl,⟨leD.nil,leD.refl _,trivial⟩⟩)
 cases hm
 replace hm:=opt_some hm
 revert hm
 refine VIf.b (fun h6 hm=> ?_) (fun h6 hm=> ?_)
 cases hm
 exact RetY.le (⟨_,rfl,⟨leD.nil,leD.refl _,trivial⟩⟩)
 obtain⟨ev155,he,hk156⟩:=bd_some hm
 refine LoopY.ofL (m_moon_Conflict_L1 p4) (fun v13=>⟨[(0, .agg [lD 9 s.Sheets TSheet.c,lD 3 s.Roofs TRoof.c,lD 6 s.Sightings TSighting.c]),(1,DI night),(2,DI known),(3, .own 0 0),(6, .v (.slice none 0 0)),(7,DI 0),(8, .ptr [DI p4.Sheet.Source,DI p4.Sheet.Night,DI p4.Sheet.Known,DI p4.Sheet.Until,lD 5 p4.Sheet.Rows TRow.c,DI p4.Sheet.Off.Num,DI p4.Sheet.Off.Den,DI p4.Sheet.Light.Lo,DI p4.Sheet.Light.Hi,lD 3 p4.roofs TRoof.c,lD 6 p4.sightings TSighting.c,DI p4.slip.Lo.Num,DI p4.slip.Lo.Den,DB p4.slip.Open,DI p4.slip.Hi.Num,DI p4.slip.Hi.Den] 0),(9,DI x2),(24,DB (x2 !=0)),(29,lD 6 p4.sightings TSighting.c),(30,DI (p4.sightings.length:Int)),(31,DI v13)], [(0, .blk [lD 9 s.Sheets TSheet.c,lD 3 s.Roofs TRoof.c,lD 6 s.Sightings TSighting.c] 32)],1⟩) 0 (SubY.of 1 rfl ⟨tR rfl,tR rfl,tR rfl,tR rfl,tR rfl,tR rfl,tR rfl,tR rfl,tR rfl,tR rfl,tR rfl,tR rfl,trivial⟩ ⟨hR rfl,trivial⟩) he ?_
 rintro fu157 v13 b hm hi158
 revert hm
 refine VIf.b (fun h159 hm=> ?_) (fun h159 hm=> ?_)
 obtain⟨e160,hx161,hm⟩:=bd_some hm
 refine⟨_,el_idx (fun _=>rfl) hx161, ?_⟩
 refine⟨([e160]:List TSighting).flatMap TSighting.c,([e160]:List TSighting).length,⟨rfl,rfl⟩, ?_⟩
 obtain⟨x162,hx163,hm⟩:=bd_some hm
 refine CallOwn.det (d_moon_known_clash p4 (([e160]:List TSighting)) _ hx163) ?_
 revert hm
 refine VIf.b (fun h164 hm=> ?_) (fun h164 hm=> ?_)
 refine⟨([e160.Source]:List Int).flatMap cI,([e160.Source]:List Int).length,⟨rfl,rfl⟩, ?_⟩
 cases hm
 cases hi158
 have hm:=hk156
 cases hm
 exact RetY.le (leD.refl _)
 cases hm
 exact⟨(_,(W (v13+1))),SubY.of 1 rfl ⟨tR rfl,tR rfl,tR rfl,tR rfl,tR rfl,tR rfl,tR rfl,tR rfl,tR rfl,tR rfl,tR rfl,tR rfl,trivial⟩ ⟨hR rfl,trivial⟩,hi158,Nat.lt_succ_self _⟩
 cases hm
 cases hi158
 have hm:=hk156
 obtain⟨ev253,he,hk254⟩:=bd_some hm
 refine LoopY.ofL (m_moon_Conflict_L4 p4) (fun v190=>⟨[(0, .agg [lD 9 s.Sheets TSheet.c,lD 3 s.Roofs TRoof.c,lD 6 s.Sightings TSighting.c]),(1,DI night),(2,DI known),(3, .own 0 0),(6, .v (.slice none 0 0)),(7,DI 0),(8, .ptr [DI p4.Sheet.Source,DI p4.Sheet.Night,DI p4.Sheet.Known,DI p4.Sheet.Until,lD 5 p4.Sheet.Rows TRow.c,DI p4.Sheet.Off.Num,DI p4.Sheet.Off.Den,DI p4.Sheet.Light.Lo,DI p4.Sheet.Light.Hi,lD 3 p4.roofs TRoof.c,lD 6 p4.sightings TSighting.c,DI p4.slip.Lo.Num,DI p4.slip.Lo.Den,DB p4.slip.Open,DI p4.slip.Hi.Num,DI p4.slip.Hi.Den] 0),(9,DI x2),(24,DB (x2 !=0)),(29,lD 6 p4.sightings TSighting.c),(30,DI (p4.sightings.length:Int)),(31,DI v13),(32,DB (decide (v13<(p4.sightings.length:Int)))),(46,lD 6 p4.sightings TSighting.c),(47,DI (p4.sightings.length:Int)),(48,DI v190)], [(0, .blk [lD 9 s.Sheets TSheet.c,lD 3 s.Roofs TRoof.c,lD 6 s.Sightings TSighting.c] 32)],1⟩) 0 (SubY.of 1 rfl ⟨tR rfl,tR rfl,tR rfl,tR rfl,tR rfl,tR rfl,tR rfl,tR rfl,tR rfl,tR rfl,tR rfl,tR rfl,tR rfl,tR rfl,tR rfl,tR rfl,trivial⟩ ⟨hR rfl,trivial⟩) he ?_
 rintro fu255 v190 b hm hi256
 revert hm
 refine VIf.b (fun h257 hm=> ?_) (fun h257 hm=> ?_)
 obtain⟨e258,hx259,hm⟩:=bd_some hm
 refine⟨_,el_idx (fun _=>rfl) hx259, ?_⟩
 obtain⟨hg,hm⟩:=gd_some hm
 obtain⟨sl260,hy,hm⟩:=bd_some hm
 refine⟨hg,_,(flat_sub (c:=TSighting.c) (z:=6) (fun _=>rfl) _ _ _).trans (congrArg _ (Option.some.inj hy)), ?_⟩
 have hl:sl260.length=p4.sightings.length-((W (v190+1))).toNat:=by rw [←Option.some.inj hy];exact sub_len (by omega)
 rw [←hl]
 obtain⟨ev282,he,hk283⟩:=bd_some hm
 refine LoopY.ofL (m_moon_Conflict_L5 p4 e258 sl260) (fun v267=>⟨[(0, .agg [lD 9 s.Sheets TSheet.c,lD 3 s.Roofs TRoof.c,lD 6 s.Sightings TSighting.c]),(1,DI night),(2,DI known),(3, .own 0 0),(6, .v (.slice none 0 0)),(7,DI 0),(8, .ptr [DI p4.Sheet.Source,DI p4.Sheet.Night,DI p4.Sheet.Known,DI p4.Sheet.Until,lD 5 p4.Sheet.Rows TRow.c,DI p4.Sheet.Off.Num,DI p4.Sheet.Off.Den,DI p4.Sheet.Light.Lo,DI p4.Sheet.Light.Hi,lD 3 p4.roofs TRoof.c,lD 6 p4.sightings TSighting.c,DI p4.slip.Lo.Num,DI p4.slip.Lo.Den,DB p4.slip.Open,DI p4.slip.Hi.Num,DI p4.slip.Hi.Den] 0),(9,DI x2),(12,DI v190),(13, .own 1 0),(24,DB (x2 !=0)),(29,lD 6 p4.sightings TSighting.c),(30,DI (p4.sightings.length:Int)),(31,DI v13),(32,DB (decide (v13<(p4.sightings.length:Int)))),(46,lD 6 p4.sightings TSighting.c),(47,DI (p4.sightings.length:Int)),(48,DI v190),(49,DB (decide (v190<(p4.sightings.length:Int)))),(59,lD 6 sl260 TSighting.c),(60,DI (sl260.length:Int)),(61,DI v267)], [(0, .blk [lD 9 s.Sheets TSheet.c,lD 3 s.Roofs TRoof.c,lD 6 s.Sightings TSighting.c] 32),(1, .blk [DI e258.Source,DI e258.Night,DI e258.Minute,DB e258.Above,DI e258.Known,DI e258.Until] 61)],2⟩) 0 (SubY.of 2 rfl ⟨tR rfl,tR rfl,tR rfl,tR rfl,tR rfl,tR rfl,tR rfl,tR rfl,tR rfl,tR rfl,tR rfl,tR rfl,tR rfl,tR rfl,tR rfl,tR rfl,tR rfl,tR rfl,tR rfl,tR rfl,tR rfl,tR rfl,trivial⟩ ⟨hR rfl,hR rfl,trivial⟩) he ?_
 rintro fu284 v267 b hm hi285
 revert hm
 refine VIf.b (fun h286 hm=> ?_) (fun h286 hm=> ?_)
 obtain⟨e287,hx288,hm⟩:=bd_some hm
 refine⟨_,el_idx (fun _=>rfl) hx288, ?_⟩
 refine⟨([e258,e287]:List TSighting).flatMap TSighting.c,([e258,e287]:List TSighting).length,⟨rfl,rfl⟩, ?_⟩
 obtain⟨x289,hx290,hm⟩:=bd_some hm
 refine CallOwn.det (d_moon_known_clash p4 (([e258,e287]:List TSighting)) _ hx290) ?_
 revert hm
 refine VIf.b (fun h291 hm=> ?_) (fun h291 hm=> ?_)
 refine⟨([e258.Source,e287.Source]:List Int).flatMap cI,([e258.Source,e287.Source]:List Int).length,⟨rfl,rfl⟩, ?_⟩
 cases hm
 cases hi285
 have hm:=hk283
 cases hm
 cases hi256
 have hm:=hk254
 cases hm
 exact RetY.le (leD.refl _)
 cases hm
 exact⟨(_,(W (v267+1))),SubY.of 2 rfl ⟨tR rfl,tR rfl,tR rfl,tR rfl,tR rfl,tR rfl,tR rfl,tR rfl,tR rfl,tR rfl,tR rfl,tR rfl,tR rfl,tR rfl,tR rfl,tR rfl,tR rfl,tR rfl,tR rfl,tR rfl,tR rfl,tR rfl,trivial⟩ ⟨hR rfl,hR rfl,trivial⟩,hi285,Nat.lt_succ_self _⟩
 cases hm
 cases hi285
 have hm:=hk283
 cases hm
 exact⟨(_,(W (v190+1))),SubY.of 1 rfl ⟨tR rfl,tR rfl,tR rfl,tR rfl,tR rfl,tR rfl,tR rfl,tR rfl,tR rfl,tR rfl,tR rfl,tR rfl,tR rfl,tR rfl,tR rfl,tR rfl,trivial⟩ ⟨hR rfl,trivial⟩,hi256,Nat.lt_succ_self _⟩
 cases hm
 cases hi256
 have hm:=hk254
 cases hm
 exact RetY.le (⟨_,rfl,⟨leD.nil,leD.refl _,trivial⟩⟩)
def m_L02_of (n:Int):Option TFrac:=
 some (⟨n,1⟩:TFrac)
theorem d_L02_of (n:Int) (r:TFrac) (hm:m_L02_of n=some r):Does Try.prog 26 [DI n] (fun x=>x= .agg (TFrac.c r)):=by
 refine does_zy (X:=⟨Try.prog,tt,Try.f26.ntmps, [], [], [], [], [], []⟩) pok _ Try.func26 rfl rfl (Nat.le_of_ble_eq_true rfl) ?_
 cases hm
 exact RetY.le (leD.refl _)
def m_L02_example:Option TSky:=
 Option.bind (m_L02_of 2) fun x1=>
 Option.bind (m_L02_of (-20)) fun x3=>
 Option.bind (m_L02_of 80) fun x5=>
 Option.bind (m_L02_of 0) fun x7=>
 Option.bind (m_L02_of 100) fun x9=>
 Option.bind (m_L02_of 30) fun x11=>
 Option.bind (m_L02_of 200) fun x13=>
 Option.bind (m_L02_of (-10)) fun x15=>
 Option.bind (m_L02_of 300) fun x17=>
 some (⟨[(⟨1,5,3,0,([(⟨0,x3,x5⟩:TRow),(⟨500,x7,x9⟩:TRow),(⟨800,x11,x13⟩:TRow),(⟨1439,x15,x17⟩:TRow)]:List TRow),x1,(⟨400,500⟩:TRange)⟩:TSheet)],([(⟨90,110,1⟩:TRoof),(⟨190,360,10⟩:TRoof)]:List TRoof),([(⟨10,5,500,true,6,0⟩:TSighting),(⟨11,5,520,false,7,0⟩:TSighting)]:List TSighting)⟩:TSky)
theorem d_L02_example (r:TSky) (hm:m_L02_example=some r):Does Try.prog 20 [] (fun x=>x= .agg (TSky.c r)):=by
 refine does_zy (X:=⟨Try.prog,tt,Try.f20.ntmps, [], [], [], [], [], []⟩) pok _ Try.func20 rfl rfl (Nat.le_of_ble_eq_true rfl) ?_
 obtain⟨x1,hx2,hm⟩:=bd_some hm
 refine CallY.det (d_L02_of 2 _ hx2) ?_
 obtain⟨x3,hx4,hm⟩:=bd_some hm
 refine CallY.det (d_L02_of (-20) _ hx4) ?_
 obtain⟨x5,hx6,hm⟩:=bd_some hm
 refine CallY.det (d_L02_of 80 _ hx6) ?_
 obtain⟨x7,hx8,hm⟩:=bd_some hm
 refine CallY.det (d_L02_of 0 _ hx8) ?_
 obtain⟨x9,hx10,hm⟩:=bd_some hm
 refine CallY.det (d_L02_of 100 _ hx10) ?_
 obtain⟨x11,hx12,hm⟩:=bd_some hm
 refine CallY.det (d_L02_of 30 _ hx12) ?_
 obtain⟨x13,hx14,hm⟩:=bd_some hm
 refine CallY.det (d_L02_of 200 _ hx14) ?_
 obtain⟨x15,hx16,hm⟩:=bd_some hm
 refine CallY.det (d_L02_of (-10) _ hx16) ?_
 obtain⟨x17,hx18,hm⟩:=bd_some hm
 refine CallY.det (d_L02_of 300 _ hx18) ?_
 refine⟨([(⟨0,x3,x5⟩:TRow),(⟨500,x7,x9⟩:TRow),(⟨800,x11,x13⟩:TRow),(⟨1439,x15,x17⟩:TRow)]:List TRow).flatMap TRow.c,([(⟨0,x3,x5⟩:TRow),(⟨500,x7,x9⟩:TRow),(⟨800,x11,x13⟩:TRow),(⟨1439,x15,x17⟩:TRow)]:List TRow).length,⟨rfl,rfl⟩, ?_⟩
 refine⟨([(⟨90,110,1⟩:TRoof),(⟨190,360,10⟩:TRoof)]:List TRoof).flatMap TRoof.c,([(⟨90,110,1⟩:TRoof),(⟨190,360,10⟩:TRoof)]:List TRoof).length,⟨rfl,rfl⟩, ?_⟩
 refine⟨([(⟨10,5,500,true,6,0⟩:TSighting),(⟨11,5,520,false,7,0⟩:TSighting)]:List TSighting).flatMap TSighting.c,([(⟨10,5,500,true,6,0⟩:TSighting),(⟨11,5,520,false,7,0⟩:TSighting)]:List TSighting).length,⟨rfl,rfl⟩, ?_⟩
 cases hm
 exact RetY.le (leD.refl _)
def m_moon_Margin (s:TSheet) (l:(List TRoof)) (minute:Int):Option (TFrac×Int):=
 Option.bind (m_moon_CheckSheet s) fun x1=>
 if(x1 !=0)=true then
  some ((⟨0,0⟩:TFrac),21)
 else
  Option.bind (m_moon_areRoofs l) fun x4=>
  if(!x4)=true then
   some ((⟨0,0⟩:TFrac),22)
  else
   Option.bind (m_moon_isMinute minute) fun x7=>
   if(!x7)=true then
    some ((⟨0,0⟩:TFrac),1)
   else
    Option.bind (m_moon_margin s l minute) fun x10=>
    some (x10,0)
theorem d_moon_Margin (s:TSheet) (l:(List TRoof)) (minute:Int) (r:(TFrac×Int)) (hm:m_moon_Margin s l minute=some r):Does Try.prog 21 [.agg (TSheet.c s),lD 3 l TRoof.c,DI minute] (fun x=>x= .tup [.agg (TFrac.c r.1),DI r.2]):=by
 refine does_zy (X:=⟨Try.prog,tt,Try.f21.ntmps, [], [], [], [], [], []⟩) pok _ Try.func21 rfl rfl (Nat.le_of_ble_eq_true rfl) ?_
 obtain⟨x1,hx2,hm⟩:=bd_some hm
 refine CallY.det (d_moon_CheckSheet s _ hx2) ?_
 revert hm
 refine VIf.b (fun h3 hm=> ?_) (fun h3 hm=> ?_)
 cases hm
 exact RetY.le (leD.refl _)
 obtain⟨x4,hx5,hm⟩:=bd_some hm
 refine CallY.det (d_moon_areRoofs l _ hx5) ?_
 revert hm
 refine VIf.b (fun h6 hm=> ?_) (fun h6 hm=> ?_)
 cases hm
 exact RetY.le (leD.refl _)
 obtain⟨x7,hx8,hm⟩:=bd_some hm
 refine CallY.det (d_moon_isMinute minute _ hx8) ?_
 revert hm
 refine VIf.b (fun h9 hm=> ?_) (fun h9 hm=> ?_)
 cases hm
 exact RetY.le (leD.refl _)
 obtain⟨x10,hx11,hm⟩:=bd_some hm
 refine CallY.det (d_moon_margin s l minute _ hx11) ?_
 cases hm
 exact RetY.le (leD.refl _)
def m_moon_known_edge (k:Tknown) (minute:Int):Option TFrac:=
 Option.bind (m_moon_margin k.Sheet k.roofs minute) fun x1=>
 Option.bind (m_moon_minus x1) fun x3=>
 Option.bind (m_moon_reduced x3) fun x5=>
 some x5
theorem d_moon_known_edge (k:Tknown) (minute:Int) (r:TFrac) (hm:m_moon_known_edge k minute=some r):Does Try.prog 71 [.ptr (Tknown.c k) 0,DI minute] (fun x=>x= .agg (TFrac.c r)):=by
 refine does_zy (X:=⟨Try.prog,tt,Try.f71.ntmps,pl71, [], [], [], [], []⟩) pok _ Try.func71 rfl rfl (Nat.le_of_ble_eq_true rfl) ?_
 refine⟨rfl, ?_⟩
 obtain⟨x1,hx2,hm⟩:=bd_some hm
 refine CallY.det (d_moon_margin k.Sheet k.roofs minute _ hx2) ?_
 obtain⟨x3,hx4,hm⟩:=bd_some hm
 refine CallY.det (d_moon_minus x1 _ hx4) ?_
 obtain⟨x5,hx6,hm⟩:=bd_some hm
 refine CallY.det (d_moon_reduced x3 _ hx6) ?_
 cases hm
 exact RetY.le (leD.refl _)
def m_moon_known_above (k:Tknown) (minute:Int):Option Int:=
 Option.bind (m_moon_known_edge k minute) fun x1=>
 Option.bind (m_moon_compare k.slip.Lo x1) fun x3=>
 if(decide (x3>0))=true then
  some 1
 else
  if(x3==0)=true then
   if k.slip.Open=true then
    some 1
   else
    Option.bind (m_moon_compare k.slip.Hi x1) fun x8=>
    if(decide (x8≤0))=true then
     some 0
    else
     some 2
  else
   Option.bind (m_moon_compare k.slip.Hi x1) fun x11=>
   if(decide (x11≤0))=true then
    some 0
   else
    some 2
theorem d_moon_known_above (k:Tknown) (minute:Int) (r:Int) (hm:m_moon_known_above k minute=some r):Does Try.prog 49 [.ptr (Tknown.c k) 0,DI minute] (fun x=>x=DI r):=by
 refine does_zy (X:=⟨Try.prog,tt,Try.f49.ntmps,pl49, [], [], [], [], []⟩) pok _ Try.func49 rfl rfl (Nat.le_of_ble_eq_true rfl) ?_
 obtain⟨x1,hx2,hm⟩:=bd_some hm
 refine CallY.det (d_moon_known_edge k minute _ hx2) ?_
 refine⟨rfl, ?_⟩
 obtain⟨x3,hx4,hm⟩:=bd_some hm
 refine CallY.det (d_moon_compare k.slip.Lo x1 _ hx4) ?_
 revert hm
 refine VIf.b (fun h5 hm=> ?_) (fun h5 hm=> ?_)
 cases hm
 exact RetY.le (leD.refl _)
 revert hm
 refine VIf.b (fun h6 hm=> ?_) (fun h6 hm=> ?_)
 revert hm
 refine VIf.b (fun h7 hm=> ?_) (fun h7 hm=> ?_)
 cases hm
 exact RetY.le (leD.refl _)
 refine⟨rfl, ?_⟩
 obtain⟨x8,hx9,hm⟩:=bd_some hm
 refine CallY.det (d_moon_compare k.slip.Hi x1 _ hx9) ?_
 revert hm
 refine VIf.b (fun h10 hm=> ?_) (fun h10 hm=> ?_)
 cases hm
 exact RetY.le (leD.refl _)
 cases hm
 exact RetY.le (leD.refl _)
 refine⟨rfl, ?_⟩
 obtain⟨x11,hx12,hm⟩:=bd_some hm
 refine CallY.det (d_moon_compare k.slip.Hi x1 _ hx12) ?_
 revert hm
 refine VIf.b (fun h13 hm=> ?_) (fun h13 hm=> ?_)
 cases hm
 exact RetY.le (leD.refl _)
 cases hm
 exact RetY.le (leD.refl _)
def m_moon_Above (s:TSky) (night:Int) (known:Int) (minute:Int):Option (Int×Int):=
 Option.bind (m_moon_clearly s night known ([minute]:List Int)) fun⟨x1,x2⟩=>
 optM x1 (
  if(x2 !=0)=true then
   some (0,x2)
  else
   none) fun p4=>
 if(x2 !=0)=true then
  some (0,x2)
 else
  Option.bind (m_moon_known_above p4 minute) fun x7=>
  some (x7,0)
theorem d_moon_Above (s:TSky) (night:Int) (known:Int) (minute:Int) (r:(Int×Int)) (hm:m_moon_Above s night known minute=some r):Does Try.prog 22 [.agg (TSky.c s),DI night,DI known,DI minute] (fun x=>x= .tup [DI r.1,DI r.2]):=by
 refine does_zy (X:=⟨Try.prog,tt,Try.f22.ntmps, [], [], [], [], [], []⟩) pok _ Try.func22 rfl rfl (Nat.le_of_ble_eq_true rfl) ?_
 refine⟨([minute]:List Int).flatMap cI,([minute]:List Int).length,⟨rfl,rfl⟩, ?_⟩
 obtain⟨⟨x1,x2⟩,hx3,hm⟩:=bd_some hm
 refine CallOwn.det (d_moon_clearly s night known (([minute]:List Int)) _ hx3) ?_
 rcases x1 with _|p4
 replace hm:=opt_none hm
 revert hm
 refine VIf.b (fun h5 hm=> ?_) (fun h5 hm=> ?_)
 cases hm
 exact RetY.le (leD.refl _)
 cases hm
 replace hm:=opt_some hm
 revert hm
 refine VIf.b (fun h6 hm=> ?_) (fun h6 hm=> ?_)
 cases hm
 exact RetY.le (leD.refl _)
 obtain⟨x7,hx8,hm⟩:=bd_some hm
 refine CallY.det (d_moon_known_above p4 minute _ hx8) ?_
 cases hm
 exact RetY.le (leD.refl _)
def m_moon_known_answers (k:Tknown) (from_:Int) (to_:Int):Option (Int×Int×Tknown):=
 some (to_,from_,k)
theorem d_moon_known_answers (k:Tknown) (from_:Int) (to_:Int) (r:(Int×Int×Tknown)) (hm:m_moon_known_answers k from_ to_=some r):Does Try.prog 50 [.ptr (Tknown.c k) 0,DI from_,DI to_] (fun x=>x= .fn 72 [] [.ptr [DI r.1] 0, .ptr [DI r.2.1] 0, .ptr [.fn 49 [.ptr [DI r.2.2.Sheet.Source,DI r.2.2.Sheet.Night,DI r.2.2.Sheet.Known,DI r.2.2.Sheet.Until,lD 5 r.2.2.Sheet.Rows TRow.c,DI r.2.2.Sheet.Off.Num,DI r.2.2.Sheet.Off.Den,DI r.2.2.Sheet.Light.Lo,DI r.2.2.Sheet.Light.Hi,lD 3 r.2.2.roofs TRoof.c,lD 6 r.2.2.sightings TSighting.c,DI r.2.2.slip.Lo.Num,DI r.2.2.slip.Lo.Den,DB r.2.2.slip.Open,DI r.2.2.slip.Hi.Num,DI r.2.2.slip.Hi.Den] 0] []] 0]):=by
 refine does_zy (X:=⟨Try.prog,tt,Try.f50.ntmps, [], [], [], [], [], []⟩) pok _ Try.func50 rfl rfl (Nat.le_of_ble_eq_true rfl) ?_
 cases hm
 exact RetY.le (leD.refl _)
def en_moon_known_answers_1__moon_known_above (x:(Int×Int)):List D:= [DI x.1,DI x.2]
def it_moon_known_answers_1__moon_known_above_L1 (c_0:Int) (c_1:Int) (c_2:Tknown):Int→Option (List (Int×Int)×Sum Int Int):=fun v5=>
 if(decide (v5<(W ((W (c_0-c_1))+1))))=true then
  Option.bind (m_moon_known_above c_2 (W (c_1+v5))) fun x11=>
  emit ((W (c_1+v5)),x11)<|
  some ([], .inl (W (v5+1)))
 else
  some ([], .inr v5)
def it_moon_known_answers_1__moon_known_above (c_0:Int) (c_1:Int) (c_2:Tknown):Option (List (Int×Int)×Unit):=
 bindI (loopIF (it_moon_known_answers_1__moon_known_above_L1 c_0 c_1 c_2) 0) fun v14=>
 some ([],())
def ply72:List (Nat×PT):= [(3, .of [(0, [],false),(1, [],false),(2, [],false),(3, [],false),(4, [],false),(5, [],false),(6, [],false),(7, [],false),(8, [1],true)])]
theorem i_moon_known_answers_1__moon_known_above (c_0:Int) (c_1:Int) (c_2:Tknown) (xs:List (Int×Int)) (hm:it_moon_known_answers_1__moon_known_above c_0 c_1 c_2=some (xs,())):DoesIt Try.prog 72 [.ptr [DI c_0] 0, .ptr [DI c_1] 0, .ptr [.fn 49 [.ptr [DI c_2.Sheet.Source,DI c_2.Sheet.Night,DI c_2.Sheet.Known,DI c_2.Sheet.Until,lD 5 c_2.Sheet.Rows TRow.c,DI c_2.Sheet.Off.Num,DI c_2.Sheet.Off.Den,DI c_2.Sheet.Light.Lo,DI c_2.Sheet.Light.Hi,lD 3 c_2.roofs TRoof.c,lD 6 c_2.sightings TSighting.c,DI c_2.slip.Lo.Num,DI c_2.slip.Lo.Den,DB c_2.slip.Open,DI c_2.slip.Hi.Num,DI c_2.slip.Hi.Den] 0] []] 0] (xs.map en_moon_known_answers_1__moon_known_above):=by
 refine does_zit (X:=⟨Try.prog,tt,Try.f72.ntmps,ply72, [], [], [], [], []⟩) pok _ _ [(3,9)] Try.func72 rfl rfl (Nat.le_of_ble_eq_true rfl) rfl ?_
 intro l
 obtain⟨r,hr⟩:∃r:List (Int×Int)×Unit,r=(xs,()):=⟨_,rfl⟩
 rw [←hr]at hm
 have hp:Hp3 en_moon_known_answers_1__moon_known_above [] r.1 [] (xs.map en_moon_known_answers_1__moon_known_above):=⟨by rw [hr];simp⟩
 clear hr
 obtain⟨ev15,rr19,he,hk16,hb1,hb2⟩:=bindI_some hm
 replace hp:=hp.in1 hb1
 clear hb1 hb2
 refine LoopI.of (fun(lpx:Nat×Int)=>match lpx with|(fu17,v5)=>(⟨[(0, .v (.func (.yield l) #[] #[])),(1, .ptr [DI c_0] 0),(2, .ptr [DI c_1] 0),(3, .ptr [.fn 49 [.ptr [DI c_2.Sheet.Source,DI c_2.Sheet.Night,DI c_2.Sheet.Known,DI c_2.Sheet.Until,lD 5 c_2.Sheet.Rows TRow.c,DI c_2.Sheet.Off.Num,DI c_2.Sheet.Off.Den,DI c_2.Sheet.Light.Lo,DI c_2.Sheet.Light.Hi,lD 3 c_2.roofs TRoof.c,lD 6 c_2.sightings TSighting.c,DI c_2.slip.Lo.Num,DI c_2.slip.Lo.Den,DB c_2.slip.Open,DI c_2.slip.Hi.Num,DI c_2.slip.Hi.Den] 0] []] 0),(9,DI (W ((W (c_0-c_1))+1))),(10,DI v5)], [],0⟩:Sy)) (fun lpx q=>∃e,loopIO (it_moon_known_answers_1__moon_known_above_L1 c_0 c_1 c_2) lpx.1 lpx.2=some e∧Hp3 en_moon_known_answers_1__moon_known_above q e.1 _ _∧e.2=ev15.2) (fun lpx=>lpx.1) (FUEL,0) ⟨_,he,hp,rfl⟩ (SubY.of 0 rfl ⟨tR rfl,tR rfl,tR rfl,tR rfl,tR rfl,tR rfl,trivial⟩ trivial) ?_
 clear hp he
 rintro⟨fu17,v5⟩ q ⟨el21,hi18,hp,hx22⟩
 obtain⟨fu17,b,tl,rfl,hm,hb1,hi18⟩:=loopI_step hi18
 replace hp:=hp.in1 hb1
 clear hb1
 have hq:b.2=b.2:=rfl
 revert hm
 refine VIf.b (fun h24 hm=> ?_) (fun h24 hm=> ?_)
 refine⟨rfl,rfl, ?_⟩
 obtain⟨x25,hx26,hm⟩:=bd_some hm
 refine CallY.det (d_moon_known_above c_2 (W (c_1+v5)) _ hx26) ?_
 obtain⟨rb27,hm,hb1,hb2⟩:=emit_some hm
 refine YieldY.of (x':=en_moon_known_answers_1__moon_known_above ((W (c_1+v5)),x25)) rfl rfl (RetY.le (leD.refl _)) (hp.pre hb1) ?_ ?_
 replace hp:=hp.emit hb1
 replace hq:=hq.trans hb2
 cases hm
 rw [hq]at hi18
 obtain⟨e2,hm,rfl,ht⟩:=hi18
 exact⟨(fu17,(W (v5+1))),_,SubY.of 0 rfl ⟨tR rfl,tR rfl,tR rfl,tR rfl,tR rfl,tR rfl,trivial⟩ trivial,rfl,⟨_,hm,hp.out rfl,ht.symm.trans hx22⟩,Nat.lt_succ_self _⟩
 exact .inl rfl
 cases hm
 rw [hq]at hi18
 obtain⟨rfl,ht⟩:=hi18
 replace hp:=(hp.out (l':= []) rfl).out rfl
 have hm:=hk16
 try rw [←hx22,ht]at hm
 clear hq
 cases hm
 exact .inr (congrArg some (hp.done rfl))
def m_moon_Rises_L1:(Int×Int)→(Int×Int)→Option (Sum (Int×Int) (Int×Int)):=fun(v16,v17) (y11,y12)=>
 if(y12 !=0)=true then
  if(y12==1)=true then
   some (.inr ((if y11<v16 then y11 else v16),y11))
  else
   some (.inl ((if y11<v16 then y11 else v16),v17))
 else
  if(y12==1)=true then
   some (.inr (v16,y11))
  else
   some (.inl (v16,v17))
def m_moon_Rises (s:TSky) (night:Int) (known:Int) (from_:Int) (to_:Int):Option (TRange×Int):=
 Option.bind (m_moon_clearly s night known ([from_,to_]:List Int)) fun⟨x1,x2⟩=>
 optM x1 (
  if(x2 !=0)=true then
   some ((⟨0,0⟩:TRange),x2)
  else
   none) fun p4=>
 if(x2 !=0)=true then
  some ((⟨0,0⟩:TRange),x2)
 else
  Option.bind (m_moon_known_answers p4 from_ to_) fun⟨x7,x8,x9⟩=>
  Option.bind (it_moon_known_answers_1__moon_known_above x7 x8 x9) fun l24=>
  Option.bind (rangeF m_moon_Rises_L1 l24.1 (1440,1440)) fun e=>
  match e with
  | .inl (v25,v26)=>
   some ((⟨v25,v26⟩:TRange),0)
  | .inr (v27,v28)=>
   some ((⟨v27,v28⟩:TRange),0)
theorem d_moon_Rises (s:TSky) (night:Int) (known:Int) (from_:Int) (to_:Int) (r:(TRange×Int)) (hm:m_moon_Rises s night known from_ to_=some r):Does Try.prog 23 [.agg (TSky.c s),DI night,DI known,DI from_,DI to_] (fun x=>x= .tup [.agg (TRange.c r.1),DI r.2]):=by
 refine does_zr (X:=⟨Try.prog,tt,Try.f23.ntmps, [], [], [], [], [], []⟩) pok _ Try.func23 rfl rfl (Nat.le_of_ble_eq_true rfl) ?_
 intro ds
 intro ds
 refine⟨([from_,to_]:List Int).flatMap cI,([from_,to_]:List Int).length,⟨rfl,rfl⟩, ?_⟩
 obtain⟨⟨x1,x2⟩,hx3,hm⟩:=bd_some hm
 refine CallOwn.det (d_moon_clearly s night known (([from_,to_]:List Int)) _ hx3) ?_
 rcases x1 with _|p4
 replace hm:=opt_none hm
 intro ds
 revert hm
 refine VIf.b (fun h5 hm=> ?_) (fun h5 hm=> ?_)
 intro ds
 intro ds
 cases hm
 exact RetY.le (leD.refl _)
 intro ds
 intro ds
 intro ds
 cases hm
 replace hm:=opt_some hm
 intro ds
 revert hm
 refine VIf.b (fun h6 hm=> ?_) (fun h6 hm=> ?_)
 intro ds
 intro ds
 cases hm
 exact RetY.le (leD.refl _)
 intro ds
 intro ds
 intro ds
 obtain⟨⟨x7,x8,x9⟩,hx10,hm⟩:=bd_some hm
 refine CallY.det (d_moon_known_answers p4 from_ to_ _ hx10) ?_
 obtain⟨l24,hl30,hm⟩:=bd_some hm
 obtain⟨ev29,he,hm⟩:=bd_some hm
 refine RangeY.ofZ (E:=(Int×Int)) en_moon_known_answers_1__moon_known_above l24.1 m_moon_Rises_L1 (fun(lpx:(Int×Int))=>match lpx with|(v16,v17)=>(⟨[(0, .agg [lD 9 s.Sheets TSheet.c,lD 3 s.Roofs TRoof.c,lD 6 s.Sightings TSighting.c]),(1,DI night),(2,DI known),(3,DI from_),(4,DI to_),(5, .own 0 0),(10, .own 1 0),(11,DI 0),(12, .ptr [DI p4.Sheet.Source,DI p4.Sheet.Night,DI p4.Sheet.Known,DI p4.Sheet.Until,lD 5 p4.Sheet.Rows TRow.c,DI p4.Sheet.Off.Num,DI p4.Sheet.Off.Den,DI p4.Sheet.Light.Lo,DI p4.Sheet.Light.Hi,lD 3 p4.roofs TRoof.c,lD 6 p4.sightings TSighting.c,DI p4.slip.Lo.Num,DI p4.slip.Lo.Den,DB p4.slip.Open,DI p4.slip.Hi.Num,DI p4.slip.Hi.Den] 0),(13,DI x2),(14, .own 3 0),(28,DB (x2 !=0))], [(0, .blk [lD 9 s.Sheets TSheet.c,lD 3 s.Roofs TRoof.c,lD 6 s.Sightings TSighting.c] 32),(1, .blk [DI 0,DI 0] 39),(3, .blk [DI v16,DI v17] 39)],4⟩:Sy)) (fun(lpx:(Int×Int))=>match lpx with|(v16,v17)=>(⟨[(0, .agg [lD 9 s.Sheets TSheet.c,lD 3 s.Roofs TRoof.c,lD 6 s.Sightings TSighting.c]),(1,DI night),(2,DI known),(3,DI from_),(4,DI to_),(5, .own 0 0),(10, .own 1 0),(11,DI 0),(12, .ptr [DI p4.Sheet.Source,DI p4.Sheet.Night,DI p4.Sheet.Known,DI p4.Sheet.Until,lD 5 p4.Sheet.Rows TRow.c,DI p4.Sheet.Off.Num,DI p4.Sheet.Off.Den,DI p4.Sheet.Light.Lo,DI p4.Sheet.Light.Hi,lD 3 p4.roofs TRoof.c,lD 6 p4.sightings TSighting.c,DI p4.slip.Lo.Num,DI p4.slip.Lo.Den,DB p4.slip.Open,DI p4.slip.Hi.Num,DI p4.slip.Hi.Den] 0),(13,DI x2),(14, .own 3 0),(28,DB (x2 !=0))], [(0, .blk [lD 9 s.Sheets TSheet.c,lD 3 s.Roofs TRoof.c,lD 6 s.Sightings TSighting.c] 32),(1, .blk [DI 0,DI 0] 39),(3, .blk [DI v16,DI v17] 39)],4⟩:Sy)) (fun _=>(.exit 0)) (1440,1440) ev29 [0,1,2,3,4,5,10,11,12,13,14,28] (i_moon_known_answers_1__moon_known_above x7 x8 x9 l24.1 hl30) he (enters_f pok Try.func72 rfl) rfl rfl (fun _=>rfl) rfl rfl rfl (by rintro⟨v16,v17⟩;rfl) (by rintro⟨v16,v17⟩;rfl) (SubY.of 4 rfl ⟨tR rfl,tR rfl,tR rfl,tR rfl,tR rfl,tR rfl,tR rfl,tR rfl,tR rfl,tR rfl,tR rfl,tR rfl,trivial⟩ ⟨hR rfl,hR rfl,hR rfl,trivial⟩) ?_ ?_ (fun _=> .inr ⟨_,rfl⟩) ?_
 rintro⟨v25,v26⟩ rfl
 intro ds
 intro ds
 cases hm
 exact RetY.le (leD.refl _)
 rintro⟨v27,v28⟩ rfl
 intro ds
 intro ds
 cases hm
 exact RetY.le (leD.refl _)
 clear he hm
 rintro⟨v16,v17⟩ ⟨y11,y12⟩ b hm
 revert hm
 refine VIf.b (fun h31 hm=> ?_) (fun h31 hm=> ?_)
 revert hm
 refine VIf.b (fun h32 hm=> ?_) (fun h32 hm=> ?_)
 cases hm
 exact⟨((if y11<v16 then y11 else v16),y11),rfl,rfl,SubY.of 4 rfl ⟨tR rfl,tR rfl,tR rfl,tR rfl,tR rfl,tR rfl,tR rfl,tR rfl,tR rfl,tR rfl,tR rfl,tR rfl,trivial⟩ ⟨hR rfl,hR rfl,hR rfl,trivial⟩⟩
 cases hm
 exact⟨((if y11<v16 then y11 else v16),v17),rfl,SubY.of 4 rfl ⟨tR rfl,tR rfl,tR rfl,tR rfl,tR rfl,tR rfl,tR rfl,tR rfl,tR rfl,tR rfl,tR rfl,tR rfl,trivial⟩ ⟨hR rfl,hR rfl,hR rfl,trivial⟩⟩
 revert hm
 refine VIf.b (fun h33 hm=> ?_) (fun h33 hm=> ?_)
 cases hm
 exact⟨(v16,y11),rfl,rfl,SubY.of 4 rfl ⟨tR rfl,tR rfl,tR rfl,tR rfl,tR rfl,tR rfl,tR rfl,tR rfl,tR rfl,tR rfl,tR rfl,tR rfl,trivial⟩ ⟨hR rfl,hR rfl,hR rfl,trivial⟩⟩
 cases hm
 exact⟨(v16,v17),rfl,SubY.of 4 rfl ⟨tR rfl,tR rfl,tR rfl,tR rfl,tR rfl,tR rfl,tR rfl,tR rfl,tR rfl,tR rfl,tR rfl,tR rfl,trivial⟩ ⟨hR rfl,hR rfl,hR rfl,trivial⟩⟩
def m_moon_known_light (k:Tknown) (answer:Int):Option TRange:=
 if(answer==1)=true then
  some k.Sheet.Light
 else
  if(answer==0)=true then
   some (⟨0,0⟩:TRange)
  else
   some (⟨0,k.Sheet.Light.Hi⟩:TRange)
theorem d_moon_known_light (k:Tknown) (answer:Int) (r:TRange) (hm:m_moon_known_light k answer=some r):Does Try.prog 51 [.ptr (Tknown.c k) 0,DI answer] (fun x=>x= .agg (TRange.c r)):=by
 refine does_zy (X:=⟨Try.prog,tt,Try.f51.ntmps, [], [], [], [], [], []⟩) pok _ Try.func51 rfl rfl (Nat.le_of_ble_eq_true rfl) ?_
 revert hm
 refine VIf.b (fun h1 hm=> ?_) (fun h1 hm=> ?_)
 cases hm
 exact RetY.le (leD.refl _)
 revert hm
 refine VIf.b (fun h2 hm=> ?_) (fun h2 hm=> ?_)
 cases hm
 exact RetY.le (leD.refl _)
 cases hm
 exact RetY.le (leD.refl _)
def m_moon_Whole_L1:Int→(Int×Int)→Option (Sum Int Int):=fun v15 (y11,y12)=>
 if(y12==0)=true then
  some (.inr 0)
 else
  if(y12==2)=true then
   some (.inl 2)
  else
   some (.inl v15)
def m_moon_Whole (s:TSky) (night:Int) (known:Int) (from_:Int) (to_:Int):Option (TRange×Int):=
 Option.bind (m_moon_clearly s night known ([from_,to_]:List Int)) fun⟨x1,x2⟩=>
 optM x1 (
  if(x2 !=0)=true then
   some ((⟨0,0⟩:TRange),x2)
  else
   none) fun p4=>
 if(x2 !=0)=true then
  some ((⟨0,0⟩:TRange),x2)
 else
  Option.bind (m_moon_known_answers p4 from_ to_) fun⟨x7,x8,x9⟩=>
  Option.bind (it_moon_known_answers_1__moon_known_above x7 x8 x9) fun l20=>
  Option.bind (rangeF m_moon_Whole_L1 l20.1 1) fun e=>
  match e with
  | .inl v21=>
   Option.bind (m_moon_known_light p4 v21) fun x22=>
   some (x22,0)
  | .inr v24=>
   Option.bind (m_moon_known_light p4 v24) fun x25=>
   some (x25,0)
theorem d_moon_Whole (s:TSky) (night:Int) (known:Int) (from_:Int) (to_:Int) (r:(TRange×Int)) (hm:m_moon_Whole s night known from_ to_=some r):Does Try.prog 24 [.agg (TSky.c s),DI night,DI known,DI from_,DI to_] (fun x=>x= .tup [.agg (TRange.c r.1),DI r.2]):=by
 refine does_zr (X:=⟨Try.prog,tt,Try.f24.ntmps, [], [], [], [], [], []⟩) pok _ Try.func24 rfl rfl (Nat.le_of_ble_eq_true rfl) ?_
 intro ds
 intro ds
 refine⟨([from_,to_]:List Int).flatMap cI,([from_,to_]:List Int).length,⟨rfl,rfl⟩, ?_⟩
 obtain⟨⟨x1,x2⟩,hx3,hm⟩:=bd_some hm
 refine CallOwn.det (d_moon_clearly s night known (([from_,to_]:List Int)) _ hx3) ?_
 rcases x1 with _|p4
 replace hm:=opt_none hm
 intro ds
 revert hm
 refine VIf.b (fun h5 hm=> ?_) (fun h5 hm=> ?_)
 intro ds
 intro ds
 cases hm
 exact RetY.le (leD.refl _)
 intro ds
 intro ds
 intro ds
 intro ds
 cases hm
 replace hm:=opt_some hm
 intro ds
 revert hm
 refine VIf.b (fun h6 hm=> ?_) (fun h6 hm=> ?_)
 intro ds
 intro ds
 cases hm
 exact RetY.le (leD.refl _)
 intro ds
 intro ds
 intro ds
 intro ds
 obtain⟨⟨x7,x8,x9⟩,hx10,hm⟩:=bd_some hm
 refine CallY.det (d_moon_known_answers p4 from_ to_ _ hx10) ?_
 obtain⟨l20,hl28,hm⟩:=bd_some hm
 obtain⟨ev27,he,hm⟩:=bd_some hm
 refine RangeY.ofZ (E:=Int) en_moon_known_answers_1__moon_known_above l20.1 m_moon_Whole_L1 (fun(lpx:Int)=>match lpx with|v15=>(⟨[(0, .agg [lD 9 s.Sheets TSheet.c,lD 3 s.Roofs TRoof.c,lD 6 s.Sightings TSighting.c]),(1,DI night),(2,DI known),(3,DI from_),(4,DI to_),(5, .own 0 0),(10, .own 1 0),(11,DI 0),(12, .ptr [DI p4.Sheet.Source,DI p4.Sheet.Night,DI p4.Sheet.Known,DI p4.Sheet.Until,lD 5 p4.Sheet.Rows TRow.c,DI p4.Sheet.Off.Num,DI p4.Sheet.Off.Den,DI p4.Sheet.Light.Lo,DI p4.Sheet.Light.Hi,lD 3 p4.roofs TRoof.c,lD 6 p4.sightings TSighting.c,DI p4.slip.Lo.Num,DI p4.slip.Lo.Den,DB p4.slip.Open,DI p4.slip.Hi.Num,DI p4.slip.Hi.Den] 0),(13,DI x2),(14, .own 3 0),(28,DB (x2 !=0))], [(0, .blk [lD 9 s.Sheets TSheet.c,lD 3 s.Roofs TRoof.c,lD 6 s.Sightings TSighting.c] 32),(1, .blk [DI 0,DI 0] 39),(3, .blk [DI v15] 3)],4⟩:Sy)) (fun(lpx:Int)=>match lpx with|v15=>(⟨[(0, .agg [lD 9 s.Sheets TSheet.c,lD 3 s.Roofs TRoof.c,lD 6 s.Sightings TSighting.c]),(1,DI night),(2,DI known),(3,DI from_),(4,DI to_),(5, .own 0 0),(10, .own 1 0),(11,DI 0),(12, .ptr [DI p4.Sheet.Source,DI p4.Sheet.Night,DI p4.Sheet.Known,DI p4.Sheet.Until,lD 5 p4.Sheet.Rows TRow.c,DI p4.Sheet.Off.Num,DI p4.Sheet.Off.Den,DI p4.Sheet.Light.Lo,DI p4.Sheet.Light.Hi,lD 3 p4.roofs TRoof.c,lD 6 p4.sightings TSighting.c,DI p4.slip.Lo.Num,DI p4.slip.Lo.Den,DB p4.slip.Open,DI p4.slip.Hi.Num,DI p4.slip.Hi.Den] 0),(13,DI x2),(14, .own 3 0),(28,DB (x2 !=0))], [(0, .blk [lD 9 s.Sheets TSheet.c,lD 3 s.Roofs TRoof.c,lD 6 s.Sightings TSighting.c] 32),(1, .blk [DI 0,DI 0] 39),(3, .blk [DI v15] 3)],4⟩:Sy)) (fun _=>(.exit 0)) 1 ev27 [0,1,2,3,4,5,10,11,12,13,14,28] (i_moon_known_answers_1__moon_known_above x7 x8 x9 l20.1 hl28) he (enters_f pok Try.func72 rfl) rfl rfl (fun _=>rfl) rfl rfl rfl (by rintro v15;rfl) (by rintro v15;rfl) (SubY.of 4 rfl ⟨tR rfl,tR rfl,tR rfl,tR rfl,tR rfl,tR rfl,tR rfl,tR rfl,tR rfl,tR rfl,tR rfl,tR rfl,trivial⟩ ⟨hR rfl,hR rfl,hR rfl,trivial⟩) ?_ ?_ (fun _=> .inr ⟨_,rfl⟩) ?_
 rintro v21 rfl
 intro ds
 obtain⟨x22,hx23,hm⟩:=bd_some hm
 refine CallY.det (d_moon_known_light p4 v21 _ hx23) ?_
 intro ds
 cases hm
 exact RetY.le (leD.refl _)
 rintro v24 rfl
 intro ds
 obtain⟨x25,hx26,hm⟩:=bd_some hm
 refine CallY.det (d_moon_known_light p4 v24 _ hx26) ?_
 intro ds
 cases hm
 exact RetY.le (leD.refl _)
 clear he hm
 rintro v15 ⟨y11,y12⟩ b hm
 revert hm
 refine VIf.b (fun h29 hm=> ?_) (fun h29 hm=> ?_)
 cases hm
 exact⟨0,rfl,rfl,SubY.of 4 rfl ⟨tR rfl,tR rfl,tR rfl,tR rfl,tR rfl,tR rfl,tR rfl,tR rfl,tR rfl,tR rfl,tR rfl,tR rfl,trivial⟩ ⟨hR rfl,hR rfl,hR rfl,trivial⟩⟩
 revert hm
 refine VIf.b (fun h30 hm=> ?_) (fun h30 hm=> ?_)
 cases hm
 exact⟨2,rfl,SubY.of 4 rfl ⟨tR rfl,tR rfl,tR rfl,tR rfl,tR rfl,tR rfl,tR rfl,tR rfl,tR rfl,tR rfl,tR rfl,tR rfl,trivial⟩ ⟨hR rfl,hR rfl,hR rfl,trivial⟩⟩
 cases hm
 exact⟨v15,rfl,SubY.of 4 rfl ⟨tR rfl,tR rfl,tR rfl,tR rfl,tR rfl,tR rfl,tR rfl,tR rfl,tR rfl,tR rfl,tR rfl,tR rfl,trivial⟩ ⟨hR rfl,hR rfl,hR rfl,trivial⟩⟩
def m_moon_Spans_L1:(List TSpan)→(Int×Int)→Option (Sum (List TSpan) Unit):=fun v13 (y11,y12)=>
 if(decide ((v13.length:Int)>0))=true then
  Option.bind (idx v13 (W ((v13.length:Int)-1))) fun e25=>
  Option.bind (idx v13 (W ((v13.length:Int)-1))) fun e27=>
  if(e27.Answer==y12)=true then
   Option.bind (idx v13 (W ((v13.length:Int)-1))) fun e30=>
   Option.bind (idx v13 (W ((v13.length:Int)-1))) fun e32=>
   some (.inl (v13.set (W ((v13.length:Int)-1)).toNat (⟨e32.From,y11,e32.Answer⟩:TSpan)))
  else
   gd ((v13.length+([(⟨y11,y11,y12⟩:TSpan)]:List TSpan).length)*24≤140737488355328∧v13.length+([(⟨y11,y11,y12⟩:TSpan)]:List TSpan).length≤9223372036854775807)<|
   some (.inl (v13++([(⟨y11,y11,y12⟩:TSpan)]:List TSpan)))
 else
  gd ((v13.length+([(⟨y11,y11,y12⟩:TSpan)]:List TSpan).length)*24≤140737488355328∧v13.length+([(⟨y11,y11,y12⟩:TSpan)]:List TSpan).length≤9223372036854775807)<|
  some (.inl (v13++([(⟨y11,y11,y12⟩:TSpan)]:List TSpan)))
def m_moon_Spans (s:TSky) (night:Int) (known:Int) (from_:Int) (to_:Int):Option ((List TSpan)×Int):=
 Option.bind (m_moon_clearly s night known ([from_,to_]:List Int)) fun⟨x1,x2⟩=>
 optM x1 (
  if(x2 !=0)=true then
   some ([],x2)
  else
   none) fun p4=>
 if(x2 !=0)=true then
  some ([],x2)
 else
  Option.bind (m_moon_known_answers p4 from_ to_) fun⟨x7,x8,x9⟩=>
  Option.bind (it_moon_known_answers_1__moon_known_above x7 x8 x9) fun l34=>
  Option.bind (rangeF m_moon_Spans_L1 l34.1 []) fun e=>
  match e with
  | .inl v35=>
   some (v35,0)
  | .inr _=>none
theorem d_moon_Spans (s:TSky) (night:Int) (known:Int) (from_:Int) (to_:Int) (r:((List TSpan)×Int)) (hm:m_moon_Spans s night known from_ to_=some r):Does Try.prog 25 [.agg (TSky.c s),DI night,DI known,DI from_,DI to_] (fun x=>x= .tup [lD 3 r.1 TSpan.c,DI r.2]):=by
 refine does_zr (X:=⟨Try.prog,tt,Try.f25.ntmps, [], [], [], [], [], []⟩) pok _ Try.func25 rfl rfl (Nat.le_of_ble_eq_true rfl) ?_
 intro ds
 intro ds
 refine⟨([from_,to_]:List Int).flatMap cI,([from_,to_]:List Int).length,⟨rfl,rfl⟩, ?_⟩
 obtain⟨⟨x1,x2⟩,hx3,hm⟩:=bd_some hm
 refine CallOwn.det (d_moon_clearly s night known (([from_,to_]:List Int)) _ hx3) ?_
 rcases x1 with _|p4
 replace hm:=opt_none hm
 intro ds
 revert hm
 refine VIf.b (fun h5 hm=> ?_) (fun h5 hm=> ?_)
 intro ds
 intro ds
 cases hm
 exact RetY.le (⟨_,rfl,⟨leD.nil,leD.refl _,trivial⟩⟩)
 intro ds
 intro ds
 intro ds
 cases hm
 replace hm:=opt_some hm
 intro ds
 revert hm
 refine VIf.b (fun h6 hm=> ?_) (fun h6 hm=> ?_)
 intro ds
 intro ds
 cases hm
 exact RetY.le (⟨_,rfl,⟨leD.nil,leD.refl _,trivial⟩⟩)
 intro ds
 intro ds
 intro ds
 obtain⟨⟨x7,x8,x9⟩,hx10,hm⟩:=bd_some hm
 refine CallY.det (d_moon_known_answers p4 from_ to_ _ hx10) ?_
 obtain⟨l34,hl37,hm⟩:=bd_some hm
 obtain⟨ev36,he,hm⟩:=bd_some hm
 refine RangeY.ofZ (E:=Unit) en_moon_known_answers_1__moon_known_above l34.1 m_moon_Spans_L1 (fun(lpx:(List TSpan))=>match lpx with|v13=>(⟨[(0, .agg [lD 9 s.Sheets TSheet.c,lD 3 s.Roofs TRoof.c,lD 6 s.Sightings TSighting.c]),(1,DI night),(2,DI known),(3,DI from_),(4,DI to_),(5, .own 0 0),(10, .v (.slice none 0 0)),(11,DI 0),(12, .ptr [DI p4.Sheet.Source,DI p4.Sheet.Night,DI p4.Sheet.Known,DI p4.Sheet.Until,lD 5 p4.Sheet.Rows TRow.c,DI p4.Sheet.Off.Num,DI p4.Sheet.Off.Den,DI p4.Sheet.Light.Lo,DI p4.Sheet.Light.Hi,lD 3 p4.roofs TRoof.c,lD 6 p4.sightings TSighting.c,DI p4.slip.Lo.Num,DI p4.slip.Lo.Den,DB p4.slip.Open,DI p4.slip.Hi.Num,DI p4.slip.Hi.Den] 0),(13,DI x2),(14, .own 2 0),(28,DB (x2 !=0))], [(0, .blk [lD 9 s.Sheets TSheet.c,lD 3 s.Roofs TRoof.c,lD 6 s.Sightings TSighting.c] 32),(2, .blk [.row 3 3] 82),(3,rE 3 v13 TSpan.c 89)],4⟩:Sy)) (fun(_:Unit)=>(⟨[], [],0⟩:Sy)) (fun _=> .ret) [] ev36 [0,1,2,3,4,5,10,11,12,13,14,28] (i_moon_known_answers_1__moon_known_above x7 x8 x9 l34.1 hl37) he (enters_f pok Try.func72 rfl) rfl rfl (fun _=>rfl) rfl rfl rfl (by rintro v13;rfl) (by intro _;rfl) (SubY.of 3 rfl ⟨tR rfl,tR rfl,tR rfl,tR rfl,tR rfl,tR rfl,tR rfl,tR rfl,tR rfl,tR rfl,tR rfl,tR rfl,trivial⟩ ⟨hR rfl,hR rfl,⟨rfl,rfl⟩,trivial⟩) ?_ ?_ (fun _=> .inl rfl) ?_
 rintro v35 rfl
 intro ds
 intro ds
 cases hm
 exact RetY.le (leD.refl _)
 rintro _ rfl
 cases hm
 clear he hm
 rintro v13 ⟨y11,y12⟩ b hm
 revert hm
 refine VIf.b (fun h38 hm=> ?_) (fun h38 hm=> ?_)
 obtain⟨e39,hx40,hm⟩:=bd_some hm
 refine⟨idx_bd hx40, ?_⟩
 obtain⟨e41,hx42,hm⟩:=bd_some hm
 refine⟨_,el_row (fun _=>rfl) hx42, ?_⟩
 revert hm
 refine VIf.b (fun h43 hm=> ?_) (fun h43 hm=> ?_)
 obtain⟨e44,hx45,hm⟩:=bd_some hm
 refine⟨idx_bd hx45, ?_⟩
 obtain⟨e46,hx47,hm⟩:=bd_some hm
 refine⟨_,el_row (fun _=>rfl) hx47,_,set_row (y:=(⟨e46.From,y11,e46.Answer⟩:TSpan)) (fun _=>rfl) hx47, ?_⟩
 cases hm
 exact⟨(v13.set (W ((v13.length:Int)-1)).toNat (⟨e46.From,y11,e46.Answer⟩:TSpan)),rfl,SubY.of 4 rfl ⟨tR rfl,tR rfl,tR rfl,tR rfl,tR rfl,tR rfl,tR rfl,tR rfl,tR rfl,tR rfl,tR rfl,tR rfl,trivial⟩ ⟨hR rfl,hR rfl,hW rfl,trivial⟩⟩
 refine⟨([(⟨y11,y11,y12⟩:TSpan)]:List TSpan).flatMap TSpan.c,([(⟨y11,y11,y12⟩:TSpan)]:List TSpan).length,⟨rfl,rfl⟩, ?_⟩
 obtain⟨hg,hm⟩:=gd_some hm
 refine⟨hg,_,_,flat_app (c:=TSpan.c) (l:=(v13:List TSpan)) (r:=(([(⟨y11,y11,y12⟩:TSpan)]:List TSpan):List TSpan)), ?_⟩
 cases hm
 exact⟨(v13++([(⟨y11,y11,y12⟩:TSpan)]:List TSpan)),rfl,SubY.of 4 rfl ⟨tR rfl,tR rfl,tR rfl,tR rfl,tR rfl,tR rfl,tR rfl,tR rfl,tR rfl,tR rfl,tR rfl,tR rfl,trivial⟩ ⟨hR rfl,hR rfl,hW rfl,trivial⟩⟩
 refine⟨([(⟨y11,y11,y12⟩:TSpan)]:List TSpan).flatMap TSpan.c,([(⟨y11,y11,y12⟩:TSpan)]:List TSpan).length,⟨rfl,rfl⟩, ?_⟩
 obtain⟨hg,hm⟩:=gd_some hm
 refine⟨hg,_,_,flat_app (c:=TSpan.c) (l:=(v13:List TSpan)) (r:=(([(⟨y11,y11,y12⟩:TSpan)]:List TSpan):List TSpan)), ?_⟩
 cases hm
 exact⟨(v13++([(⟨y11,y11,y12⟩:TSpan)]:List TSpan)),rfl,SubY.of 4 rfl ⟨tR rfl,tR rfl,tR rfl,tR rfl,tR rfl,tR rfl,tR rfl,tR rfl,tR rfl,tR rfl,tR rfl,tR rfl,trivial⟩ ⟨hR rfl,hR rfl,hW rfl,trivial⟩⟩
def m_R02_Same_L1 (a:(List Int)) (b_:(List Int)):Int→Option (Sum Int (Sum Int Bool)):=fun i8=>
 if(decide (i8<(a.length:Int)))=true then
  Option.bind (idx a i8) fun e16=>
  Option.bind (idx b_ i8) fun e18=>
  if(e16 !=e18)=true then
   some (.inr (.inr false))
  else
   some (.inl (W (i8+1)))
 else
  some (.inr (.inl i8))
def m_R02_Same (a:(List Int)) (b_:(List Int)):Option Bool:=
 if((a.length:Int) !=(b_.length:Int))=true then
  some false
 else
  Option.bind (loopF (m_R02_Same_L1 a b_) 0) fun e=>
  match e with
  | .inl i21=>
   some true
  | .inr rr22=>
   some rr22
theorem d_R02_Same (a:(List Int)) (b_:(List Int)) (r:Bool) (hm:m_R02_Same a b_=some r):Does Try.prog 27 [lD 1 a cI,lD 1 b_ cI] (fun x=>x=DB r):=by
 refine does_zy (X:=⟨Try.prog,tt,Try.f27.ntmps,pl27, [], [], [], [], []⟩) pok _ Try.func27 rfl rfl (Nat.le_of_ble_eq_true rfl) ?_
 revert hm
 refine VIf.b (fun h1 hm=> ?_) (fun h1 hm=> ?_)
 cases hm
 exact RetY.le (leD.refl _)
 obtain⟨ev23,he,hk24⟩:=bd_some hm
 refine LoopY.ofL (m_R02_Same_L1 a b_) (fun i8=>⟨[(0,lD 1 a cI),(1,lD 1 b_ cI),(4,DB false),(5,DI i8),(10,DB ((a.length:Int) !=(b_.length:Int)))], [],0⟩) 0 (SubY.of 0 rfl ⟨tR rfl,tR rfl,tR rfl,tR rfl,tR rfl,trivial⟩ trivial) he ?_
 rintro fu25 i8 b hm hi26
 revert hm
 refine VIf.b (fun h27 hm=> ?_) (fun h27 hm=> ?_)
 refine⟨rfl, ?_⟩
 obtain⟨e28,hx29,hm⟩:=bd_some hm
 refine⟨_,el_idx (fun _=>rfl) hx29, ?_⟩
 obtain⟨e30,hx31,hm⟩:=bd_some hm
 refine⟨_,el_idx (fun _=>rfl) hx31, ?_⟩
 revert hm
 refine VIf.b (fun h32 hm=> ?_) (fun h32 hm=> ?_)
 cases hm
 cases hi26
 have hm:=hk24
 cases hm
 exact RetY.le (leD.refl _)
 cases hm
 exact⟨(_,(W (i8+1))),SubY.of 0 rfl ⟨tR rfl,tR rfl,tR rfl,tR rfl,tR rfl,trivial⟩ trivial,hi26,Nat.lt_succ_self _⟩
 cases hm
 cases hi26
 have hm:=hk24
 cases hm
 exact RetY.le (leD.refl _)
def m_R02_SameSpans_L1 (a:(List TSpan)) (b_:(List TSpan)):Int→Option (Sum Int (Sum Int Bool)):=fun i8=>
 if(decide (i8<(a.length:Int)))=true then
  Option.bind (idx a i8) fun e16=>
  Option.bind (idx b_ i8) fun e18=>
  if(!((e16.From==e18.From)&&((e16.To==e18.To)&&(e16.Answer==e18.Answer))))=true then
   some (.inr (.inr false))
  else
   some (.inl (W (i8+1)))
 else
  some (.inr (.inl i8))
def m_R02_SameSpans (a:(List TSpan)) (b_:(List TSpan)):Option Bool:=
 if((a.length:Int) !=(b_.length:Int))=true then
  some false
 else
  Option.bind (loopF (m_R02_SameSpans_L1 a b_) 0) fun e=>
  match e with
  | .inl i21=>
   some true
  | .inr rr22=>
   some rr22
theorem d_R02_SameSpans (a:(List TSpan)) (b_:(List TSpan)) (r:Bool) (hm:m_R02_SameSpans a b_=some r):Does Try.prog 28 [lD 3 a TSpan.c,lD 3 b_ TSpan.c] (fun x=>x=DB r):=by
 refine does_zy (X:=⟨Try.prog,tt,Try.f28.ntmps,pl28, [], [], [], [], []⟩) pok _ Try.func28 rfl rfl (Nat.le_of_ble_eq_true rfl) ?_
 revert hm
 refine VIf.b (fun h1 hm=> ?_) (fun h1 hm=> ?_)
 cases hm
 exact RetY.le (leD.refl _)
 obtain⟨ev23,he,hk24⟩:=bd_some hm
 refine LoopY.ofL (m_R02_SameSpans_L1 a b_) (fun i8=>⟨[(0,lD 3 a TSpan.c),(1,lD 3 b_ TSpan.c),(4,DB false),(5,DI i8),(10,DB ((a.length:Int) !=(b_.length:Int)))], [],0⟩) 0 (SubY.of 0 rfl ⟨tR rfl,tR rfl,tR rfl,tR rfl,tR rfl,trivial⟩ trivial) he ?_
 rintro fu25 i8 b hm hi26
 revert hm
 refine VIf.b (fun h27 hm=> ?_) (fun h27 hm=> ?_)
 refine⟨rfl, ?_⟩
 obtain⟨e28,hx29,hm⟩:=bd_some hm
 refine⟨_,el_idx (fun _=>rfl) hx29, ?_⟩
 obtain⟨e30,hx31,hm⟩:=bd_some hm
 refine⟨_,el_idx (fun _=>rfl) hx31, ?_⟩
 revert hm
 refine VIf.b (fun h32 hm=> ?_) (fun h32 hm=> ?_)
 cases hm
 cases hi26
 have hm:=hk24
 cases hm
 exact RetY.le (leD.refl _)
 cases hm
 exact⟨(_,(W (i8+1))),SubY.of 0 rfl ⟨tR rfl,tR rfl,tR rfl,tR rfl,tR rfl,trivial⟩ trivial,hi26,Nat.lt_succ_self _⟩
 cases hm
 cases hi26
 have hm:=hk24
 cases hm
 exact RetY.le (leD.refl _)
def m_L02_sane:Option Bool:=
 Option.bind (m_L02_example) fun x1=>
 Option.bind (idx x1.Sheets 0) fun e3=>
 Option.bind (m_moon_Margin e3 x1.Roofs 530) fun⟨x5,x6⟩=>
 Option.bind (m_moon_Slip x1 5 6) fun⟨x8,x9⟩=>
 Option.bind (m_moon_Conflict x1 5 7) fun⟨x11,x12⟩=>
 Option.bind (m_moon_Above x1 5 3 476) fun⟨x14,x15⟩=>
 Option.bind (m_moon_Rises x1 5 6 400 700) fun⟨x17,x18⟩=>
 Option.bind (m_moon_Whole x1 5 6 500 700) fun⟨x20,x21⟩=>
 Option.bind (m_moon_Spans x1 5 3 470 532) fun⟨x23,x24⟩=>
 if(x6==0)=true then
  if(x9==0)=true then
   if(x12==0)=true then
    if(x15==0)=true then
     if(x18==0)=true then
      if(x21==0)=true then
       Option.bind (m_L02_of 3) fun x32=>
       if((x5.Num==x32.Num)&&(x5.Den==x32.Den))=true then
        Option.bind (m_L02_of 1) fun x35=>
        Option.bind (m_L02_of 2) fun x37=>
        if((x8.Lo.Num==x35.Num)&&((x8.Lo.Den==x35.Den)&&((x8.Open==true)&&((x8.Hi.Num==x37.Num)&&(x8.Hi.Den==x37.Den)))))=true then
         Option.bind (m_R02_Same x11 ([10,11]:List Int)) fun x40=>
         if x40=true then
          if((x17.Lo==476)&&(x17.Hi==500))=true then
           if((x20.Lo==400)&&(x20.Hi==500))=true then
            Option.bind (m_R02_SameSpans x23 ([(⟨470,475,0⟩:TSpan),(⟨476,529,2⟩:TSpan),(⟨530,532,1⟩:TSpan)]:List TSpan)) fun x45=>
            if(x24==0)=true then
             if(x14==2)=true then
              some x45
             else
              some false
            else
             some false
           else
            if(x24==0)=true then
             if(x14==2)=true then
              some false
             else
              some false
            else
             some false
          else
           if(x24==0)=true then
            if(x14==2)=true then
             some false
            else
             some false
           else
            some false
         else
          if((x17.Lo==476)&&(x17.Hi==500))=true then
           if((x20.Lo==400)&&(x20.Hi==500))=true then
            Option.bind (m_R02_SameSpans x23 ([(⟨470,475,0⟩:TSpan),(⟨476,529,2⟩:TSpan),(⟨530,532,1⟩:TSpan)]:List TSpan)) fun x55=>
            if(x24==0)=true then
             some false
            else
             some false
           else
            if(x24==0)=true then
             some false
            else
             some false
          else
           if(x24==0)=true then
            some false
           else
            some false
        else
         if((x17.Lo==476)&&(x17.Hi==500))=true then
          if((x20.Lo==400)&&(x20.Hi==500))=true then
           Option.bind (m_R02_SameSpans x23 ([(⟨470,475,0⟩:TSpan),(⟨476,529,2⟩:TSpan),(⟨530,532,1⟩:TSpan)]:List TSpan)) fun x62=>
           if(x24==0)=true then
            some false
           else
            some false
          else
           if(x24==0)=true then
            some false
           else
            some false
         else
          if(x24==0)=true then
           some false
          else
           some false
       else
        if((x17.Lo==476)&&(x17.Hi==500))=true then
         if((x20.Lo==400)&&(x20.Hi==500))=true then
          Option.bind (m_R02_SameSpans x23 ([(⟨470,475,0⟩:TSpan),(⟨476,529,2⟩:TSpan),(⟨530,532,1⟩:TSpan)]:List TSpan)) fun x69=>
          if(x24==0)=true then
           some false
          else
           some false
         else
          if(x24==0)=true then
           some false
          else
           some false
        else
         if(x24==0)=true then
          some false
         else
          some false
      else
       Option.bind (m_L02_of 3) fun x74=>
       if((x5.Num==x74.Num)&&(x5.Den==x74.Den))=true then
        Option.bind (m_L02_of 1) fun x77=>
        Option.bind (m_L02_of 2) fun x79=>
        if((x8.Lo.Num==x77.Num)&&((x8.Lo.Den==x77.Den)&&((x8.Open==true)&&((x8.Hi.Num==x79.Num)&&(x8.Hi.Den==x79.Den)))))=true then
         Option.bind (m_R02_Same x11 ([10,11]:List Int)) fun x82=>
         if x82=true then
          if((x17.Lo==476)&&(x17.Hi==500))=true then
           if((x20.Lo==400)&&(x20.Hi==500))=true then
            Option.bind (m_R02_SameSpans x23 ([(⟨470,475,0⟩:TSpan),(⟨476,529,2⟩:TSpan),(⟨530,532,1⟩:TSpan)]:List TSpan)) fun x87=>
            some false
           else
            some false
          else
           some false
         else
          if((x17.Lo==476)&&(x17.Hi==500))=true then
           if((x20.Lo==400)&&(x20.Hi==500))=true then
            Option.bind (m_R02_SameSpans x23 ([(⟨470,475,0⟩:TSpan),(⟨476,529,2⟩:TSpan),(⟨530,532,1⟩:TSpan)]:List TSpan)) fun x91=>
            some false
           else
            some false
          else
           some false
        else
         if((x17.Lo==476)&&(x17.Hi==500))=true then
          if((x20.Lo==400)&&(x20.Hi==500))=true then
           Option.bind (m_R02_SameSpans x23 ([(⟨470,475,0⟩:TSpan),(⟨476,529,2⟩:TSpan),(⟨530,532,1⟩:TSpan)]:List TSpan)) fun x95=>
           some false
          else
           some false
         else
          some false
       else
        if((x17.Lo==476)&&(x17.Hi==500))=true then
         if((x20.Lo==400)&&(x20.Hi==500))=true then
          Option.bind (m_R02_SameSpans x23 ([(⟨470,475,0⟩:TSpan),(⟨476,529,2⟩:TSpan),(⟨530,532,1⟩:TSpan)]:List TSpan)) fun x99=>
          some false
         else
          some false
        else
         some false
     else
      Option.bind (m_L02_of 3) fun x101=>
      if((x5.Num==x101.Num)&&(x5.Den==x101.Den))=true then
       Option.bind (m_L02_of 1) fun x104=>
       Option.bind (m_L02_of 2) fun x106=>
       if((x8.Lo.Num==x104.Num)&&((x8.Lo.Den==x104.Den)&&((x8.Open==true)&&((x8.Hi.Num==x106.Num)&&(x8.Hi.Den==x106.Den)))))=true then
        Option.bind (m_R02_Same x11 ([10,11]:List Int)) fun x109=>
        if x109=true then
         if((x17.Lo==476)&&(x17.Hi==500))=true then
          if((x20.Lo==400)&&(x20.Hi==500))=true then
           Option.bind (m_R02_SameSpans x23 ([(⟨470,475,0⟩:TSpan),(⟨476,529,2⟩:TSpan),(⟨530,532,1⟩:TSpan)]:List TSpan)) fun x114=>
           some false
          else
           some false
         else
          some false
        else
         if((x17.Lo==476)&&(x17.Hi==500))=true then
          if((x20.Lo==400)&&(x20.Hi==500))=true then
           Option.bind (m_R02_SameSpans x23 ([(⟨470,475,0⟩:TSpan),(⟨476,529,2⟩:TSpan),(⟨530,532,1⟩:TSpan)]:List TSpan)) fun x118=>
           some false
          else
           some false
         else
          some false
       else
        if((x17.Lo==476)&&(x17.Hi==500))=true then
         if((x20.Lo==400)&&(x20.Hi==500))=true then
          Option.bind (m_R02_SameSpans x23 ([(⟨470,475,0⟩:TSpan),(⟨476,529,2⟩:TSpan),(⟨530,532,1⟩:TSpan)]:List TSpan)) fun x122=>
          some false
         else
          some false
        else
         some false
      else
       if((x17.Lo==476)&&(x17.Hi==500))=true then
        if((x20.Lo==400)&&(x20.Hi==500))=true then
         Option.bind (m_R02_SameSpans x23 ([(⟨470,475,0⟩:TSpan),(⟨476,529,2⟩:TSpan),(⟨530,532,1⟩:TSpan)]:List TSpan)) fun x126=>
         some false
        else
         some false
       else
        some false
    else
     Option.bind (m_L02_of 3) fun x128=>
     if((x5.Num==x128.Num)&&(x5.Den==x128.Den))=true then
      Option.bind (m_L02_of 1) fun x131=>
      Option.bind (m_L02_of 2) fun x133=>
      if((x8.Lo.Num==x131.Num)&&((x8.Lo.Den==x131.Den)&&((x8.Open==true)&&((x8.Hi.Num==x133.Num)&&(x8.Hi.Den==x133.Den)))))=true then
       Option.bind (m_R02_Same x11 ([10,11]:List Int)) fun x136=>
       if x136=true then
        if((x17.Lo==476)&&(x17.Hi==500))=true then
         if((x20.Lo==400)&&(x20.Hi==500))=true then
          Option.bind (m_R02_SameSpans x23 ([(⟨470,475,0⟩:TSpan),(⟨476,529,2⟩:TSpan),(⟨530,532,1⟩:TSpan)]:List TSpan)) fun x141=>
          some false
         else
          some false
        else
         some false
       else
        if((x17.Lo==476)&&(x17.Hi==500))=true then
         if((x20.Lo==400)&&(x20.Hi==500))=true then
          Option.bind (m_R02_SameSpans x23 ([(⟨470,475,0⟩:TSpan),(⟨476,529,2⟩:TSpan),(⟨530,532,1⟩:TSpan)]:List TSpan)) fun x145=>
          some false
         else
          some false
        else
         some false
      else
       if((x17.Lo==476)&&(x17.Hi==500))=true then
        if((x20.Lo==400)&&(x20.Hi==500))=true then
         Option.bind (m_R02_SameSpans x23 ([(⟨470,475,0⟩:TSpan),(⟨476,529,2⟩:TSpan),(⟨530,532,1⟩:TSpan)]:List TSpan)) fun x149=>
         some false
        else
         some false
       else
        some false
     else
      if((x17.Lo==476)&&(x17.Hi==500))=true then
       if((x20.Lo==400)&&(x20.Hi==500))=true then
        Option.bind (m_R02_SameSpans x23 ([(⟨470,475,0⟩:TSpan),(⟨476,529,2⟩:TSpan),(⟨530,532,1⟩:TSpan)]:List TSpan)) fun x153=>
        some false
       else
        some false
      else
       some false
   else
    Option.bind (m_L02_of 3) fun x155=>
    if((x5.Num==x155.Num)&&(x5.Den==x155.Den))=true then
     Option.bind (m_L02_of 1) fun x158=>
     Option.bind (m_L02_of 2) fun x160=>
     if((x8.Lo.Num==x158.Num)&&((x8.Lo.Den==x158.Den)&&((x8.Open==true)&&((x8.Hi.Num==x160.Num)&&(x8.Hi.Den==x160.Den)))))=true then
      Option.bind (m_R02_Same x11 ([10,11]:List Int)) fun x163=>
      if x163=true then
       if((x17.Lo==476)&&(x17.Hi==500))=true then
        if((x20.Lo==400)&&(x20.Hi==500))=true then
         Option.bind (m_R02_SameSpans x23 ([(⟨470,475,0⟩:TSpan),(⟨476,529,2⟩:TSpan),(⟨530,532,1⟩:TSpan)]:List TSpan)) fun x168=>
         some false
        else
         some false
       else
        some false
      else
       if((x17.Lo==476)&&(x17.Hi==500))=true then
        if((x20.Lo==400)&&(x20.Hi==500))=true then
         Option.bind (m_R02_SameSpans x23 ([(⟨470,475,0⟩:TSpan),(⟨476,529,2⟩:TSpan),(⟨530,532,1⟩:TSpan)]:List TSpan)) fun x172=>
         some false
        else
         some false
       else
        some false
     else
      if((x17.Lo==476)&&(x17.Hi==500))=true then
       if((x20.Lo==400)&&(x20.Hi==500))=true then
        Option.bind (m_R02_SameSpans x23 ([(⟨470,475,0⟩:TSpan),(⟨476,529,2⟩:TSpan),(⟨530,532,1⟩:TSpan)]:List TSpan)) fun x176=>
        some false
       else
        some false
      else
       some false
    else
     if((x17.Lo==476)&&(x17.Hi==500))=true then
      if((x20.Lo==400)&&(x20.Hi==500))=true then
       Option.bind (m_R02_SameSpans x23 ([(⟨470,475,0⟩:TSpan),(⟨476,529,2⟩:TSpan),(⟨530,532,1⟩:TSpan)]:List TSpan)) fun x180=>
       some false
      else
       some false
     else
      some false
  else
   Option.bind (m_L02_of 3) fun x182=>
   if((x5.Num==x182.Num)&&(x5.Den==x182.Den))=true then
    Option.bind (m_L02_of 1) fun x185=>
    Option.bind (m_L02_of 2) fun x187=>
    if((x8.Lo.Num==x185.Num)&&((x8.Lo.Den==x185.Den)&&((x8.Open==true)&&((x8.Hi.Num==x187.Num)&&(x8.Hi.Den==x187.Den)))))=true then
     Option.bind (m_R02_Same x11 ([10,11]:List Int)) fun x190=>
     if x190=true then
      if((x17.Lo==476)&&(x17.Hi==500))=true then
       if((x20.Lo==400)&&(x20.Hi==500))=true then
        Option.bind (m_R02_SameSpans x23 ([(⟨470,475,0⟩:TSpan),(⟨476,529,2⟩:TSpan),(⟨530,532,1⟩:TSpan)]:List TSpan)) fun x195=>
        some false
       else
        some false
      else
       some false
     else
      if((x17.Lo==476)&&(x17.Hi==500))=true then
       if((x20.Lo==400)&&(x20.Hi==500))=true then
        Option.bind (m_R02_SameSpans x23 ([(⟨470,475,0⟩:TSpan),(⟨476,529,2⟩:TSpan),(⟨530,532,1⟩:TSpan)]:List TSpan)) fun x199=>
        some false
       else
        some false
      else
       some false
    else
     if((x17.Lo==476)&&(x17.Hi==500))=true then
      if((x20.Lo==400)&&(x20.Hi==500))=true then
       Option.bind (m_R02_SameSpans x23 ([(⟨470,475,0⟩:TSpan),(⟨476,529,2⟩:TSpan),(⟨530,532,1⟩:TSpan)]:List TSpan)) fun x203=>
       some false
      else
       some false
     else
      some false
   else
    if((x17.Lo==476)&&(x17.Hi==500))=true then
     if((x20.Lo==400)&&(x20.Hi==500))=true then
      Option.bind (m_R02_SameSpans x23 ([(⟨470,475,0⟩:TSpan),(⟨476,529,2⟩:TSpan),(⟨530,532,1⟩:TSpan)]:List TSpan)) fun x207=>
      some false
     else
      some false
    else
     some false
 else
  Option.bind (m_L02_of 3) fun x209=>
  if((x5.Num==x209.Num)&&(x5.Den==x209.Den))=true then
   Option.bind (m_L02_of 1) fun x212=>
   Option.bind (m_L02_of 2) fun x214=>
   if((x8.Lo.Num==x212.Num)&&((x8.Lo.Den==x212.Den)&&((x8.Open==true)&&((x8.Hi.Num==x214.Num)&&(x8.Hi.Den==x214.Den)))))=true then
    Option.bind (m_R02_Same x11 ([10,11]:List Int)) fun x217=>
    if x217=true then
     if((x17.Lo==476)&&(x17.Hi==500))=true then
      if((x20.Lo==400)&&(x20.Hi==500))=true then
       Option.bind (m_R02_SameSpans x23 ([(⟨470,475,0⟩:TSpan),(⟨476,529,2⟩:TSpan),(⟨530,532,1⟩:TSpan)]:List TSpan)) fun x222=>
       some false
      else
       some false
     else
      some false
    else
     if((x17.Lo==476)&&(x17.Hi==500))=true then
      if((x20.Lo==400)&&(x20.Hi==500))=true then
       Option.bind (m_R02_SameSpans x23 ([(⟨470,475,0⟩:TSpan),(⟨476,529,2⟩:TSpan),(⟨530,532,1⟩:TSpan)]:List TSpan)) fun x226=>
       some false
      else
       some false
     else
      some false
   else
    if((x17.Lo==476)&&(x17.Hi==500))=true then
     if((x20.Lo==400)&&(x20.Hi==500))=true then
      Option.bind (m_R02_SameSpans x23 ([(⟨470,475,0⟩:TSpan),(⟨476,529,2⟩:TSpan),(⟨530,532,1⟩:TSpan)]:List TSpan)) fun x230=>
      some false
     else
      some false
    else
     some false
  else
   if((x17.Lo==476)&&(x17.Hi==500))=true then
    if((x20.Lo==400)&&(x20.Hi==500))=true then
     Option.bind (m_R02_SameSpans x23 ([(⟨470,475,0⟩:TSpan),(⟨476,529,2⟩:TSpan),(⟨530,532,1⟩:TSpan)]:List TSpan)) fun x234=>
     some false
    else
     some false
   else
    some false
theorem d_L02_sane (r:Bool) (hm:m_L02_sane=some r):Does Try.prog 7 [] (fun x=>x=DB r):=by
 refine does_zy (X:=⟨Try.prog,tt,Try.f7.ntmps,pl7, [], [], [], [], []⟩) pok _ Try.func7 rfl rfl (Nat.le_of_ble_eq_true rfl) ?_
 obtain⟨x1,hx2,hm⟩:=bd_some hm
 refine CallY.det (d_L02_example _ hx2) ?_
 refine⟨rfl, ?_⟩
 obtain⟨e3,hx4,hm⟩:=bd_some hm
 refine⟨_,el_idx (fun _=>rfl) hx4, ?_⟩
 obtain⟨⟨x5,x6⟩,hx7,hm⟩:=bd_some hm
 refine CallY.det (d_moon_Margin e3 x1.Roofs 530 _ hx7) ?_
 obtain⟨⟨x8,x9⟩,hx10,hm⟩:=bd_some hm
 refine CallY.det (d_moon_Slip x1 5 6 _ hx10) ?_
 obtain⟨⟨x11,x12⟩,hx13,hm⟩:=bd_some hm
 refine CallY.det (d_moon_Conflict x1 5 7 _ hx13) ?_
 obtain⟨⟨x14,x15⟩,hx16,hm⟩:=bd_some hm
 refine CallY.det (d_moon_Above x1 5 3 476 _ hx16) ?_
 obtain⟨⟨x17,x18⟩,hx19,hm⟩:=bd_some hm
 refine CallY.det (d_moon_Rises x1 5 6 400 700 _ hx19) ?_
 obtain⟨⟨x20,x21⟩,hx22,hm⟩:=bd_some hm
 refine CallY.det (d_moon_Whole x1 5 6 500 700 _ hx22) ?_
 obtain⟨⟨x23,x24⟩,hx25,hm⟩:=bd_some hm
 refine CallY.det (d_moon_Spans x1 5 3 470 532 _ hx25) ?_
 revert hm
 refine VIf.b (fun h26 hm=> ?_) (fun h26 hm=> ?_)
 revert hm
 refine VIf.b (fun h27 hm=> ?_) (fun h27 hm=> ?_)
 revert hm
 refine VIf.b (fun h28 hm=> ?_) (fun h28 hm=> ?_)
 revert hm
 refine VIf.b (fun h29 hm=> ?_) (fun h29 hm=> ?_)
 revert hm
 refine VIf.b (fun h30 hm=> ?_) (fun h30 hm=> ?_)
 revert hm
 refine VIf.b (fun h31 hm=> ?_) (fun h31 hm=> ?_)
 refine⟨rfl, ?_⟩
 obtain⟨x32,hx33,hm⟩:=bd_some hm
 refine CallY.det (d_L02_of 3 _ hx33) ?_
 revert hm
 refine VIf.b (fun h34 hm=> ?_) (fun h34 hm=> ?_)
 obtain⟨x35,hx36,hm⟩:=bd_some hm
 refine CallY.det (d_L02_of 1 _ hx36) ?_
 obtain⟨x37,hx38,hm⟩:=bd_some hm
 refine CallY.det (d_L02_of 2 _ hx38) ?_
 revert hm
 refine VIf.b (fun h39 hm=> ?_) (fun h39 hm=> ?_)
 refine⟨([10,11]:List Int).flatMap cI,([10,11]:List Int).length,⟨rfl,rfl⟩, ?_⟩
 obtain⟨x40,hx41,hm⟩:=bd_some hm
 refine CallOwn.det (d_R02_Same x11 (([10,11]:List Int)) _ hx41) ?_
 revert hm
 refine VIf.b (fun h42 hm=> ?_) (fun h42 hm=> ?_)
 revert hm
 refine VIf.b (fun h43 hm=> ?_) (fun h43 hm=> ?_)
 revert hm
 refine VIf.b (fun h44 hm=> ?_) (fun h44 hm=> ?_)
 refine⟨([(⟨470,475,0⟩:TSpan),(⟨476,529,2⟩:TSpan),(⟨530,532,1⟩:TSpan)]:List TSpan).flatMap TSpan.c,([(⟨470,475,0⟩:TSpan),(⟨476,529,2⟩:TSpan),(⟨530,532,1⟩:TSpan)]:List TSpan).length,⟨rfl,rfl⟩, ?_⟩
 obtain⟨x45,hx46,hm⟩:=bd_some hm
 refine CallOwn.det (d_R02_SameSpans x23 (([(⟨470,475,0⟩:TSpan),(⟨476,529,2⟩:TSpan),(⟨530,532,1⟩:TSpan)]:List TSpan)) _ hx46) ?_
 revert hm
 refine VIf.b (fun h47 hm=> ?_) (fun h47 hm=> ?_)
 revert hm
 refine VIf.b (fun h48 hm=> ?_) (fun h48 hm=> ?_)
 cases hm
 exact RetY.le (leD.refl _)
 cases hm
 exact RetY.le (leD.refl _)
 cases hm
 exact RetY.le (leD.refl _)
 revert hm
 refine VIf.b (fun h49 hm=> ?_) (fun h49 hm=> ?_)
 revert hm
 refine VIf.b (fun h50 hm=> ?_) (fun h50 hm=> ?_)
 cases hm
 exact RetY.le (leD.refl _)
 cases hm
 exact RetY.le (leD.refl _)
 cases hm
 exact RetY.le (leD.refl _)
 revert hm
 refine VIf.b (fun h51 hm=> ?_) (fun h51 hm=> ?_)
 revert hm
 refine VIf.b (fun h52 hm=> ?_) (fun h52 hm=> ?_)
 cases hm
 exact RetY.le (leD.refl _)
 cases hm
 exact RetY.le (leD.refl _)
 cases hm
 exact RetY.le (leD.refl _)
 revert hm
 refine VIf.b (fun h53 hm=> ?_) (fun h53 hm=> ?_)
 revert hm
 refine VIf.b (fun h54 hm=> ?_) (fun h54 hm=> ?_)
 refine⟨([(⟨470,475,0⟩:TSpan),(⟨476,529,2⟩:TSpan),(⟨530,532,1⟩:TSpan)]:List TSpan).flatMap TSpan.c,([(⟨470,475,0⟩:TSpan),(⟨476,529,2⟩:TSpan),(⟨530,532,1⟩:TSpan)]:List TSpan).length,⟨rfl,rfl⟩, ?_⟩
 obtain⟨x55,hx56,hm⟩:=bd_some hm
 refine CallOwn.det (d_R02_SameSpans x23 (([(⟨470,475,0⟩:TSpan),(⟨476,529,2⟩:TSpan),(⟨530,532,1⟩:TSpan)]:List TSpan)) _ hx56) ?_
 revert hm
 refine VIf.b (fun h57 hm=> ?_) (fun h57 hm=> ?_)
 cases hm
 exact RetY.le (leD.refl _)
 cases hm
 exact RetY.le (leD.refl _)
 revert hm
 refine VIf.b (fun h58 hm=> ?_) (fun h58 hm=> ?_)
 cases hm
 exact RetY.le (leD.refl _)
 cases hm
 exact RetY.le (leD.refl _)
 revert hm
 refine VIf.b (fun h59 hm=> ?_) (fun h59 hm=> ?_)
 cases hm
 exact RetY.le (leD.refl _)
 cases hm
 exact RetY.le (leD.refl _)
 revert hm
 refine VIf.b (fun h60 hm=> ?_) (fun h60 hm=> ?_)
 revert hm
 refine VIf.b (fun h61 hm=> ?_) (fun h61 hm=> ?_)
 refine⟨([(⟨470,475,0⟩:TSpan),(⟨476,529,2⟩:TSpan),(⟨530,532,1⟩:TSpan)]:List TSpan).flatMap TSpan.c,([(⟨470,475,0⟩:TSpan),(⟨476,529,2⟩:TSpan),(⟨530,532,1⟩:TSpan)]:List TSpan).length,⟨rfl,rfl⟩, ?_⟩
 obtain⟨x62,hx63,hm⟩:=bd_some hm
 refine CallOwn.det (d_R02_SameSpans x23 (([(⟨470,475,0⟩:TSpan),(⟨476,529,2⟩:TSpan),(⟨530,532,1⟩:TSpan)]:List TSpan)) _ hx63) ?_
 revert hm
 refine VIf.b (fun h64 hm=> ?_) (fun h64 hm=> ?_)
 cases hm
 exact RetY.le (leD.refl _)
 cases hm
 exact RetY.le (leD.refl _)
 revert hm
 refine VIf.b (fun h65 hm=> ?_) (fun h65 hm=> ?_)
 cases hm
 exact RetY.le (leD.refl _)
 cases hm
 exact RetY.le (leD.refl _)
 revert hm
 refine VIf.b (fun h66 hm=> ?_) (fun h66 hm=> ?_)
 cases hm
 exact RetY.le (leD.refl _)
 cases hm
 exact RetY.le (leD.refl _)
 revert hm
 refine VIf.b (fun h67 hm=> ?_) (fun h67 hm=> ?_)
 revert hm
 refine VIf.b (fun h68 hm=> ?_) (fun h68 hm=> ?_)
 refine⟨([(⟨470,475,0⟩:TSpan),(⟨476,529,2⟩:TSpan),(⟨530,532,1⟩:TSpan)]:List TSpan).flatMap TSpan.c,([(⟨470,475,0⟩:TSpan),(⟨476,529,2⟩:TSpan),(⟨530,532,1⟩:TSpan)]:List TSpan).length,⟨rfl,rfl⟩, ?_⟩
 obtain⟨x69,hx70,hm⟩:=bd_some hm
 refine CallOwn.det (d_R02_SameSpans x23 (([(⟨470,475,0⟩:TSpan),(⟨476,529,2⟩:TSpan),(⟨530,532,1⟩:TSpan)]:List TSpan)) _ hx70) ?_
 revert hm
 refine VIf.b (fun h71 hm=> ?_) (fun h71 hm=> ?_)
 cases hm
 exact RetY.le (leD.refl _)
 cases hm
 exact RetY.le (leD.refl _)
 revert hm
 refine VIf.b (fun h72 hm=> ?_) (fun h72 hm=> ?_)
 cases hm
 exact RetY.le (leD.refl _)
 cases hm
 exact RetY.le (leD.refl _)
 revert hm
 refine VIf.b (fun h73 hm=> ?_) (fun h73 hm=> ?_)
 cases hm
 exact RetY.le (leD.refl _)
 cases hm
 exact RetY.le (leD.refl _)
 refine⟨rfl, ?_⟩
 obtain⟨x74,hx75,hm⟩:=bd_some hm
 refine CallY.det (d_L02_of 3 _ hx75) ?_
 revert hm
 refine VIf.b (fun h76 hm=> ?_) (fun h76 hm=> ?_)
 obtain⟨x77,hx78,hm⟩:=bd_some hm
 refine CallY.det (d_L02_of 1 _ hx78) ?_
 obtain⟨x79,hx80,hm⟩:=bd_some hm
 refine CallY.det (d_L02_of 2 _ hx80) ?_
 revert hm
 refine VIf.b (fun h81 hm=> ?_) (fun h81 hm=> ?_)
 refine⟨([10,11]:List Int).flatMap cI,([10,11]:List Int).length,⟨rfl,rfl⟩, ?_⟩
 obtain⟨x82,hx83,hm⟩:=bd_some hm
 refine CallOwn.det (d_R02_Same x11 (([10,11]:List Int)) _ hx83) ?_
 revert hm
 refine VIf.b (fun h84 hm=> ?_) (fun h84 hm=> ?_)
 revert hm
 refine VIf.b (fun h85 hm=> ?_) (fun h85 hm=> ?_)
 revert hm
 refine VIf.b (fun h86 hm=> ?_) (fun h86 hm=> ?_)
 refine⟨([(⟨470,475,0⟩:TSpan),(⟨476,529,2⟩:TSpan),(⟨530,532,1⟩:TSpan)]:List TSpan).flatMap TSpan.c,([(⟨470,475,0⟩:TSpan),(⟨476,529,2⟩:TSpan),(⟨530,532,1⟩:TSpan)]:List TSpan).length,⟨rfl,rfl⟩, ?_⟩
 obtain⟨x87,hx88,hm⟩:=bd_some hm
 refine CallOwn.det (d_R02_SameSpans x23 (([(⟨470,475,0⟩:TSpan),(⟨476,529,2⟩:TSpan),(⟨530,532,1⟩:TSpan)]:List TSpan)) _ hx88) ?_
 cases hm
 exact RetY.le (leD.refl _)
 cases hm
 exact RetY.le (leD.refl _)
 cases hm
 exact RetY.le (leD.refl _)
 revert hm
 refine VIf.b (fun h89 hm=> ?_) (fun h89 hm=> ?_)
 revert hm
 refine VIf.b (fun h90 hm=> ?_) (fun h90 hm=> ?_)
 refine⟨([(⟨470,475,0⟩:TSpan),(⟨476,529,2⟩:TSpan),(⟨530,532,1⟩:TSpan)]:List TSpan).flatMap TSpan.c,([(⟨470,475,0⟩:TSpan),(⟨476,529,2⟩:TSpan),(⟨530,532,1⟩:TSpan)]:List TSpan).length,⟨rfl,rfl⟩, ?_⟩
 obtain⟨x91,hx92,hm⟩:=bd_some hm
 refine CallOwn.det (d_R02_SameSpans x23 (([(⟨470,475,0⟩:TSpan),(⟨476,529,2⟩:TSpan),(⟨530,532,1⟩:TSpan)]:List TSpan)) _ hx92) ?_
 cases hm
 exact RetY.le (leD.refl _)
 cases hm
 exact RetY.le (leD.refl _)
 cases hm
 exact RetY.le (leD.refl _)
 revert hm
 refine VIf.b (fun h93 hm=> ?_) (fun h93 hm=> ?_)
 revert hm
 refine VIf.b (fun h94 hm=> ?_) (fun h94 hm=> ?_)
 refine⟨([(⟨470,475,0⟩:TSpan),(⟨476,529,2⟩:TSpan),(⟨530,532,1⟩:TSpan)]:List TSpan).flatMap TSpan.c,([(⟨470,475,0⟩:TSpan),(⟨476,529,2⟩:TSpan),(⟨530,532,1⟩:TSpan)]:List TSpan).length,⟨rfl,rfl⟩, ?_⟩
 obtain⟨x95,hx96,hm⟩:=bd_some hm
 refine CallOwn.det (d_R02_SameSpans x23 (([(⟨470,475,0⟩:TSpan),(⟨476,529,2⟩:TSpan),(⟨530,532,1⟩:TSpan)]:List TSpan)) _ hx96) ?_
 cases hm
 exact RetY.le (leD.refl _)
 cases hm
 exact RetY.le (leD.refl _)
 cases hm
 exact RetY.le (leD.refl _)
 revert hm
 refine VIf.b (fun h97 hm=> ?_) (fun h97 hm=> ?_)
 revert hm
 refine VIf.b (fun h98 hm=> ?_) (fun h98 hm=> ?_)
 refine⟨([(⟨470,475,0⟩:TSpan),(⟨476,529,2⟩:TSpan),(⟨530,532,1⟩:TSpan)]:List TSpan).flatMap TSpan.c,([(⟨470,475,0⟩:TSpan),(⟨476,529,2⟩:TSpan),(⟨530,532,1⟩:TSpan)]:List TSpan).length,⟨rfl,rfl⟩, ?_⟩
 obtain⟨x99,hx100,hm⟩:=bd_some hm
 refine CallOwn.det (d_R02_SameSpans x23 (([(⟨470,475,0⟩:TSpan),(⟨476,529,2⟩:TSpan),(⟨530,532,1⟩:TSpan)]:List TSpan)) _ hx100) ?_
 cases hm
 exact RetY.le (leD.refl _)
 cases hm
 exact RetY.le (leD.refl _)
 cases hm
 exact RetY.le (leD.refl _)
 refine⟨rfl, ?_⟩
 obtain⟨x101,hx102,hm⟩:=bd_some hm
 refine CallY.det (d_L02_of 3 _ hx102) ?_
 revert hm
 refine VIf.b (fun h103 hm=> ?_) (fun h103 hm=> ?_)
 obtain⟨x104,hx105,hm⟩:=bd_some hm
 refine CallY.det (d_L02_of 1 _ hx105) ?_
 obtain⟨x106,hx107,hm⟩:=bd_some hm
 refine CallY.det (d_L02_of 2 _ hx107) ?_
 revert hm
 refine VIf.b (fun h108 hm=> ?_) (fun h108 hm=> ?_)
 refine⟨([10,11]:List Int).flatMap cI,([10,11]:List Int).length,⟨rfl,rfl⟩, ?_⟩
 obtain⟨x109,hx110,hm⟩:=bd_some hm
 refine CallOwn.det (d_R02_Same x11 (([10,11]:List Int)) _ hx110) ?_
 revert hm
 refine VIf.b (fun h111 hm=> ?_) (fun h111 hm=> ?_)
 revert hm
 refine VIf.b (fun h112 hm=> ?_) (fun h112 hm=> ?_)
 revert hm
 refine VIf.b (fun h113 hm=> ?_) (fun h113 hm=> ?_)
 refine⟨([(⟨470,475,0⟩:TSpan),(⟨476,529,2⟩:TSpan),(⟨530,532,1⟩:TSpan)]:List TSpan).flatMap TSpan.c,([(⟨470,475,0⟩:TSpan),(⟨476,529,2⟩:TSpan),(⟨530,532,1⟩:TSpan)]:List TSpan).length,⟨rfl,rfl⟩, ?_⟩
 obtain⟨x114,hx115,hm⟩:=bd_some hm
 refine CallOwn.det (d_R02_SameSpans x23 (([(⟨470,475,0⟩:TSpan),(⟨476,529,2⟩:TSpan),(⟨530,532,1⟩:TSpan)]:List TSpan)) _ hx115) ?_
 cases hm
 exact RetY.le (leD.refl _)
 cases hm
 exact RetY.le (leD.refl _)
 cases hm
 exact RetY.le (leD.refl _)
 revert hm
 refine VIf.b (fun h116 hm=> ?_) (fun h116 hm=> ?_)
 revert hm
 refine VIf.b (fun h117 hm=> ?_) (fun h117 hm=> ?_)
 refine⟨([(⟨470,475,0⟩:TSpan),(⟨476,529,2⟩:TSpan),(⟨530,532,1⟩:TSpan)]:List TSpan).flatMap TSpan.c,([(⟨470,475,0⟩:TSpan),(⟨476,529,2⟩:TSpan),(⟨530,532,1⟩:TSpan)]:List TSpan).length,⟨rfl,rfl⟩, ?_⟩
 obtain⟨x118,hx119,hm⟩:=bd_some hm
 refine CallOwn.det (d_R02_SameSpans x23 (([(⟨470,475,0⟩:TSpan),(⟨476,529,2⟩:TSpan),(⟨530,532,1⟩:TSpan)]:List TSpan)) _ hx119) ?_
 cases hm
 exact RetY.le (leD.refl _)
 cases hm
 exact RetY.le (leD.refl _)
 cases hm
 exact RetY.le (leD.refl _)
 revert hm
 refine VIf.b (fun h120 hm=> ?_) (fun h120 hm=> ?_)
 revert hm
 refine VIf.b (fun h121 hm=> ?_) (fun h121 hm=> ?_)
 refine⟨([(⟨470,475,0⟩:TSpan),(⟨476,529,2⟩:TSpan),(⟨530,532,1⟩:TSpan)]:List TSpan).flatMap TSpan.c,([(⟨470,475,0⟩:TSpan),(⟨476,529,2⟩:TSpan),(⟨530,532,1⟩:TSpan)]:List TSpan).length,⟨rfl,rfl⟩, ?_⟩
 obtain⟨x122,hx123,hm⟩:=bd_some hm
 refine CallOwn.det (d_R02_SameSpans x23 (([(⟨470,475,0⟩:TSpan),(⟨476,529,2⟩:TSpan),(⟨530,532,1⟩:TSpan)]:List TSpan)) _ hx123) ?_
 cases hm
 exact RetY.le (leD.refl _)
 cases hm
 exact RetY.le (leD.refl _)
 cases hm
 exact RetY.le (leD.refl _)
 revert hm
 refine VIf.b (fun h124 hm=> ?_) (fun h124 hm=> ?_)
 revert hm
 refine VIf.b (fun h125 hm=> ?_) (fun h125 hm=> ?_)
 refine⟨([(⟨470,475,0⟩:TSpan),(⟨476,529,2⟩:TSpan),(⟨530,532,1⟩:TSpan)]:List TSpan).flatMap TSpan.c,([(⟨470,475,0⟩:TSpan),(⟨476,529,2⟩:TSpan),(⟨530,532,1⟩:TSpan)]:List TSpan).length,⟨rfl,rfl⟩, ?_⟩
 obtain⟨x126,hx127,hm⟩:=bd_some hm
 refine CallOwn.det (d_R02_SameSpans x23 (([(⟨470,475,0⟩:TSpan),(⟨476,529,2⟩:TSpan),(⟨530,532,1⟩:TSpan)]:List TSpan)) _ hx127) ?_
 cases hm
 exact RetY.le (leD.refl _)
 cases hm
 exact RetY.le (leD.refl _)
 cases hm
 exact RetY.le (leD.refl _)
 refine⟨rfl, ?_⟩
 obtain⟨x128,hx129,hm⟩:=bd_some hm
 refine CallY.det (d_L02_of 3 _ hx129) ?_
 revert hm
 refine VIf.b (fun h130 hm=> ?_) (fun h130 hm=> ?_)
 obtain⟨x131,hx132,hm⟩:=bd_some hm
 refine CallY.det (d_L02_of 1 _ hx132) ?_
 obtain⟨x133,hx134,hm⟩:=bd_some hm
 refine CallY.det (d_L02_of 2 _ hx134) ?_
 revert hm
 refine VIf.b (fun h135 hm=> ?_) (fun h135 hm=> ?_)
 refine⟨([10,11]:List Int).flatMap cI,([10,11]:List Int).length,⟨rfl,rfl⟩, ?_⟩
 obtain⟨x136,hx137,hm⟩:=bd_some hm
 refine CallOwn.det (d_R02_Same x11 (([10,11]:List Int)) _ hx137) ?_
 revert hm
 refine VIf.b (fun h138 hm=> ?_) (fun h138 hm=> ?_)
 revert hm
 refine VIf.b (fun h139 hm=> ?_) (fun h139 hm=> ?_)
 revert hm
 refine VIf.b (fun h140 hm=> ?_) (fun h140 hm=> ?_)
 refine⟨([(⟨470,475,0⟩:TSpan),(⟨476,529,2⟩:TSpan),(⟨530,532,1⟩:TSpan)]:List TSpan).flatMap TSpan.c,([(⟨470,475,0⟩:TSpan),(⟨476,529,2⟩:TSpan),(⟨530,532,1⟩:TSpan)]:List TSpan).length,⟨rfl,rfl⟩, ?_⟩
 obtain⟨x141,hx142,hm⟩:=bd_some hm
 refine CallOwn.det (d_R02_SameSpans x23 (([(⟨470,475,0⟩:TSpan),(⟨476,529,2⟩:TSpan),(⟨530,532,1⟩:TSpan)]:List TSpan)) _ hx142) ?_
 cases hm
 exact RetY.le (leD.refl _)
 cases hm
 exact RetY.le (leD.refl _)
 cases hm
 exact RetY.le (leD.refl _)
 revert hm
 refine VIf.b (fun h143 hm=> ?_) (fun h143 hm=> ?_)
 revert hm
 refine VIf.b (fun h144 hm=> ?_) (fun h144 hm=> ?_)
 refine⟨([(⟨470,475,0⟩:TSpan),(⟨476,529,2⟩:TSpan),(⟨530,532,1⟩:TSpan)]:List TSpan).flatMap TSpan.c,([(⟨470,475,0⟩:TSpan),(⟨476,529,2⟩:TSpan),(⟨530,532,1⟩:TSpan)]:List TSpan).length,⟨rfl,rfl⟩, ?_⟩
 obtain⟨x145,hx146,hm⟩:=bd_some hm
 refine CallOwn.det (d_R02_SameSpans x23 (([(⟨470,475,0⟩:TSpan),(⟨476,529,2⟩:TSpan),(⟨530,532,1⟩:TSpan)]:List TSpan)) _ hx146) ?_
 cases hm
 exact RetY.le (leD.refl _)
 cases hm
 exact RetY.le (leD.refl _)
 cases hm
 exact RetY.le (leD.refl _)
 revert hm
 refine VIf.b (fun h147 hm=> ?_) (fun h147 hm=> ?_)
 revert hm
 refine VIf.b (fun h148 hm=> ?_) (fun h148 hm=> ?_)
 refine⟨([(⟨470,475,0⟩:TSpan),(⟨476,529,2⟩:TSpan),(⟨530,532,1⟩:TSpan)]:List TSpan).flatMap TSpan.c,([(⟨470,475,0⟩:TSpan),(⟨476,529,2⟩:TSpan),(⟨530,532,1⟩:TSpan)]:List TSpan).length,⟨rfl,rfl⟩, ?_⟩
 obtain⟨x149,hx150,hm⟩:=bd_some hm
 refine CallOwn.det (d_R02_SameSpans x23 (([(⟨470,475,0⟩:TSpan),(⟨476,529,2⟩:TSpan),(⟨530,532,1⟩:TSpan)]:List TSpan)) _ hx150) ?_
 cases hm
 exact RetY.le (leD.refl _)
 cases hm
 exact RetY.le (leD.refl _)
 cases hm
 exact RetY.le (leD.refl _)
 revert hm
 refine VIf.b (fun h151 hm=> ?_) (fun h151 hm=> ?_)
 revert hm
 refine VIf.b (fun h152 hm=> ?_) (fun h152 hm=> ?_)
 refine⟨([(⟨470,475,0⟩:TSpan),(⟨476,529,2⟩:TSpan),(⟨530,532,1⟩:TSpan)]:List TSpan).flatMap TSpan.c,([(⟨470,475,0⟩:TSpan),(⟨476,529,2⟩:TSpan),(⟨530,532,1⟩:TSpan)]:List TSpan).length,⟨rfl,rfl⟩, ?_⟩
 obtain⟨x153,hx154,hm⟩:=bd_some hm
 refine CallOwn.det (d_R02_SameSpans x23 (([(⟨470,475,0⟩:TSpan),(⟨476,529,2⟩:TSpan),(⟨530,532,1⟩:TSpan)]:List TSpan)) _ hx154) ?_
 cases hm
 exact RetY.le (leD.refl _)
 cases hm
 exact RetY.le (leD.refl _)
 cases hm
 exact RetY.le (leD.refl _)
 refine⟨rfl, ?_⟩
 obtain⟨x155,hx156,hm⟩:=bd_some hm
 refine CallY.det (d_L02_of 3 _ hx156) ?_
 revert hm
 refine VIf.b (fun h157 hm=> ?_) (fun h157 hm=> ?_)
 obtain⟨x158,hx159,hm⟩:=bd_some hm
 refine CallY.det (d_L02_of 1 _ hx159) ?_
 obtain⟨x160,hx161,hm⟩:=bd_some hm
 refine CallY.det (d_L02_of 2 _ hx161) ?_
 revert hm
 refine VIf.b (fun h162 hm=> ?_) (fun h162 hm=> ?_)
 refine⟨([10,11]:List Int).flatMap cI,([10,11]:List Int).length,⟨rfl,rfl⟩, ?_⟩
 obtain⟨x163,hx164,hm⟩:=bd_some hm
 refine CallOwn.det (d_R02_Same x11 (([10,11]:List Int)) _ hx164) ?_
 revert hm
 refine VIf.b (fun h165 hm=> ?_) (fun h165 hm=> ?_)
 revert hm
 refine VIf.b (fun h166 hm=> ?_) (fun h166 hm=> ?_)
 revert hm
 refine VIf.b (fun h167 hm=> ?_) (fun h167 hm=> ?_)
 refine⟨([(⟨470,475,0⟩:TSpan),(⟨476,529,2⟩:TSpan),(⟨530,532,1⟩:TSpan)]:List TSpan).flatMap TSpan.c,([(⟨470,475,0⟩:TSpan),(⟨476,529,2⟩:TSpan),(⟨530,532,1⟩:TSpan)]:List TSpan).length,⟨rfl,rfl⟩, ?_⟩
 obtain⟨x168,hx169,hm⟩:=bd_some hm
 refine CallOwn.det (d_R02_SameSpans x23 (([(⟨470,475,0⟩:TSpan),(⟨476,529,2⟩:TSpan),(⟨530,532,1⟩:TSpan)]:List TSpan)) _ hx169) ?_
 cases hm
 exact RetY.le (leD.refl _)
 cases hm
 exact RetY.le (leD.refl _)
 cases hm
 exact RetY.le (leD.refl _)
 revert hm
 refine VIf.b (fun h170 hm=> ?_) (fun h170 hm=> ?_)
 revert hm
 refine VIf.b (fun h171 hm=> ?_) (fun h171 hm=> ?_)
 refine⟨([(⟨470,475,0⟩:TSpan),(⟨476,529,2⟩:TSpan),(⟨530,532,1⟩:TSpan)]:List TSpan).flatMap TSpan.c,([(⟨470,475,0⟩:TSpan),(⟨476,529,2⟩:TSpan),(⟨530,532,1⟩:TSpan)]:List TSpan).length,⟨rfl,rfl⟩, ?_⟩
 obtain⟨x172,hx173,hm⟩:=bd_some hm
 refine CallOwn.det (d_R02_SameSpans x23 (([(⟨470,475,0⟩:TSpan),(⟨476,529,2⟩:TSpan),(⟨530,532,1⟩:TSpan)]:List TSpan)) _ hx173) ?_
 cases hm
 exact RetY.le (leD.refl _)
 cases hm
 exact RetY.le (leD.refl _)
 cases hm
 exact RetY.le (leD.refl _)
 revert hm
 refine VIf.b (fun h174 hm=> ?_) (fun h174 hm=> ?_)
 revert hm
 refine VIf.b (fun h175 hm=> ?_) (fun h175 hm=> ?_)
 refine⟨([(⟨470,475,0⟩:TSpan),(⟨476,529,2⟩:TSpan),(⟨530,532,1⟩:TSpan)]:List TSpan).flatMap TSpan.c,([(⟨470,475,0⟩:TSpan),(⟨476,529,2⟩:TSpan),(⟨530,532,1⟩:TSpan)]:List TSpan).length,⟨rfl,rfl⟩, ?_⟩
 obtain⟨x176,hx177,hm⟩:=bd_some hm
 refine CallOwn.det (d_R02_SameSpans x23 (([(⟨470,475,0⟩:TSpan),(⟨476,529,2⟩:TSpan),(⟨530,532,1⟩:TSpan)]:List TSpan)) _ hx177) ?_
 cases hm
 exact RetY.le (leD.refl _)
 cases hm
 exact RetY.le (leD.refl _)
 cases hm
 exact RetY.le (leD.refl _)
 revert hm
 refine VIf.b (fun h178 hm=> ?_) (fun h178 hm=> ?_)
 revert hm
 refine VIf.b (fun h179 hm=> ?_) (fun h179 hm=> ?_)
 refine⟨([(⟨470,475,0⟩:TSpan),(⟨476,529,2⟩:TSpan),(⟨530,532,1⟩:TSpan)]:List TSpan).flatMap TSpan.c,([(⟨470,475,0⟩:TSpan),(⟨476,529,2⟩:TSpan),(⟨530,532,1⟩:TSpan)]:List TSpan).length,⟨rfl,rfl⟩, ?_⟩
 obtain⟨x180,hx181,hm⟩:=bd_some hm
 refine CallOwn.det (d_R02_SameSpans x23 (([(⟨470,475,0⟩:TSpan),(⟨476,529,2⟩:TSpan),(⟨530,532,1⟩:TSpan)]:List TSpan)) _ hx181) ?_
 cases hm
 exact RetY.le (leD.refl _)
 cases hm
 exact RetY.le (leD.refl _)
 cases hm
 exact RetY.le (leD.refl _)
 refine⟨rfl, ?_⟩
 obtain⟨x182,hx183,hm⟩:=bd_some hm
 refine CallY.det (d_L02_of 3 _ hx183) ?_
 revert hm
 refine VIf.b (fun h184 hm=> ?_) (fun h184 hm=> ?_)
 obtain⟨x185,hx186,hm⟩:=bd_some hm
 refine CallY.det (d_L02_of 1 _ hx186) ?_
 obtain⟨x187,hx188,hm⟩:=bd_some hm
 refine CallY.det (d_L02_of 2 _ hx188) ?_
 revert hm
 refine VIf.b (fun h189 hm=> ?_) (fun h189 hm=> ?_)
 refine⟨([10,11]:List Int).flatMap cI,([10,11]:List Int).length,⟨rfl,rfl⟩, ?_⟩
 obtain⟨x190,hx191,hm⟩:=bd_some hm
 refine CallOwn.det (d_R02_Same x11 (([10,11]:List Int)) _ hx191) ?_
 revert hm
 refine VIf.b (fun h192 hm=> ?_) (fun h192 hm=> ?_)
 revert hm
 refine VIf.b (fun h193 hm=> ?_) (fun h193 hm=> ?_)
 revert hm
 refine VIf.b (fun h194 hm=> ?_) (fun h194 hm=> ?_)
 refine⟨([(⟨470,475,0⟩:TSpan),(⟨476,529,2⟩:TSpan),(⟨530,532,1⟩:TSpan)]:List TSpan).flatMap TSpan.c,([(⟨470,475,0⟩:TSpan),(⟨476,529,2⟩:TSpan),(⟨530,532,1⟩:TSpan)]:List TSpan).length,⟨rfl,rfl⟩, ?_⟩
 obtain⟨x195,hx196,hm⟩:=bd_some hm
 refine CallOwn.det (d_R02_SameSpans x23 (([(⟨470,475,0⟩:TSpan),(⟨476,529,2⟩:TSpan),(⟨530,532,1⟩:TSpan)]:List TSpan)) _ hx196) ?_
 cases hm
 exact RetY.le (leD.refl _)
 cases hm
 exact RetY.le (leD.refl _)
 cases hm
 exact RetY.le (leD.refl _)
 revert hm
 refine VIf.b (fun h197 hm=> ?_) (fun h197 hm=> ?_)
 revert hm
 refine VIf.b (fun h198 hm=> ?_) (fun h198 hm=> ?_)
 refine⟨([(⟨470,475,0⟩:TSpan),(⟨476,529,2⟩:TSpan),(⟨530,532,1⟩:TSpan)]:List TSpan).flatMap TSpan.c,([(⟨470,475,0⟩:TSpan),(⟨476,529,2⟩:TSpan),(⟨530,532,1⟩:TSpan)]:List TSpan).length,⟨rfl,rfl⟩, ?_⟩
 obtain⟨x199,hx200,hm⟩:=bd_some hm
 refine CallOwn.det (d_R02_SameSpans x23 (([(⟨470,475,0⟩:TSpan),(⟨476,529,2⟩:TSpan),(⟨530,532,1⟩:TSpan)]:List TSpan)) _ hx200) ?_
 cases hm
 exact RetY.le (leD.refl _)
 cases hm
 exact RetY.le (leD.refl _)
 cases hm
 exact RetY.le (leD.refl _)
 revert hm
 refine VIf.b (fun h201 hm=> ?_) (fun h201 hm=> ?_)
 revert hm
 refine VIf.b (fun h202 hm=> ?_) (fun h202 hm=> ?_)
 refine⟨([(⟨470,475,0⟩:TSpan),(⟨476,529,2⟩:TSpan),(⟨530,532,1⟩:TSpan)]:List TSpan).flatMap TSpan.c,([(⟨470,475,0⟩:TSpan),(⟨476,529,2⟩:TSpan),(⟨530,532,1⟩:TSpan)]:List TSpan).length,⟨rfl,rfl⟩, ?_⟩
 obtain⟨x203,hx204,hm⟩:=bd_some hm
 refine CallOwn.det (d_R02_SameSpans x23 (([(⟨470,475,0⟩:TSpan),(⟨476,529,2⟩:TSpan),(⟨530,532,1⟩:TSpan)]:List TSpan)) _ hx204) ?_
 cases hm
 exact RetY.le (leD.refl _)
 cases hm
 exact RetY.le (leD.refl _)
 cases hm
 exact RetY.le (leD.refl _)
 revert hm
 refine VIf.b (fun h205 hm=> ?_) (fun h205 hm=> ?_)
 revert hm
 refine VIf.b (fun h206 hm=> ?_) (fun h206 hm=> ?_)
 refine⟨([(⟨470,475,0⟩:TSpan),(⟨476,529,2⟩:TSpan),(⟨530,532,1⟩:TSpan)]:List TSpan).flatMap TSpan.c,([(⟨470,475,0⟩:TSpan),(⟨476,529,2⟩:TSpan),(⟨530,532,1⟩:TSpan)]:List TSpan).length,⟨rfl,rfl⟩, ?_⟩
 obtain⟨x207,hx208,hm⟩:=bd_some hm
 refine CallOwn.det (d_R02_SameSpans x23 (([(⟨470,475,0⟩:TSpan),(⟨476,529,2⟩:TSpan),(⟨530,532,1⟩:TSpan)]:List TSpan)) _ hx208) ?_
 cases hm
 exact RetY.le (leD.refl _)
 cases hm
 exact RetY.le (leD.refl _)
 cases hm
 exact RetY.le (leD.refl _)
 refine⟨rfl, ?_⟩
 obtain⟨x209,hx210,hm⟩:=bd_some hm
 refine CallY.det (d_L02_of 3 _ hx210) ?_
 revert hm
 refine VIf.b (fun h211 hm=> ?_) (fun h211 hm=> ?_)
 obtain⟨x212,hx213,hm⟩:=bd_some hm
 refine CallY.det (d_L02_of 1 _ hx213) ?_
 obtain⟨x214,hx215,hm⟩:=bd_some hm
 refine CallY.det (d_L02_of 2 _ hx215) ?_
 revert hm
 refine VIf.b (fun h216 hm=> ?_) (fun h216 hm=> ?_)
 refine⟨([10,11]:List Int).flatMap cI,([10,11]:List Int).length,⟨rfl,rfl⟩, ?_⟩
 obtain⟨x217,hx218,hm⟩:=bd_some hm
 refine CallOwn.det (d_R02_Same x11 (([10,11]:List Int)) _ hx218) ?_
 revert hm
 refine VIf.b (fun h219 hm=> ?_) (fun h219 hm=> ?_)
 revert hm
 refine VIf.b (fun h220 hm=> ?_) (fun h220 hm=> ?_)
 revert hm
 refine VIf.b (fun h221 hm=> ?_) (fun h221 hm=> ?_)
 refine⟨([(⟨470,475,0⟩:TSpan),(⟨476,529,2⟩:TSpan),(⟨530,532,1⟩:TSpan)]:List TSpan).flatMap TSpan.c,([(⟨470,475,0⟩:TSpan),(⟨476,529,2⟩:TSpan),(⟨530,532,1⟩:TSpan)]:List TSpan).length,⟨rfl,rfl⟩, ?_⟩
 obtain⟨x222,hx223,hm⟩:=bd_some hm
 refine CallOwn.det (d_R02_SameSpans x23 (([(⟨470,475,0⟩:TSpan),(⟨476,529,2⟩:TSpan),(⟨530,532,1⟩:TSpan)]:List TSpan)) _ hx223) ?_
 cases hm
 exact RetY.le (leD.refl _)
 cases hm
 exact RetY.le (leD.refl _)
 cases hm
 exact RetY.le (leD.refl _)
 revert hm
 refine VIf.b (fun h224 hm=> ?_) (fun h224 hm=> ?_)
 revert hm
 refine VIf.b (fun h225 hm=> ?_) (fun h225 hm=> ?_)
 refine⟨([(⟨470,475,0⟩:TSpan),(⟨476,529,2⟩:TSpan),(⟨530,532,1⟩:TSpan)]:List TSpan).flatMap TSpan.c,([(⟨470,475,0⟩:TSpan),(⟨476,529,2⟩:TSpan),(⟨530,532,1⟩:TSpan)]:List TSpan).length,⟨rfl,rfl⟩, ?_⟩
 obtain⟨x226,hx227,hm⟩:=bd_some hm
 refine CallOwn.det (d_R02_SameSpans x23 (([(⟨470,475,0⟩:TSpan),(⟨476,529,2⟩:TSpan),(⟨530,532,1⟩:TSpan)]:List TSpan)) _ hx227) ?_
 cases hm
 exact RetY.le (leD.refl _)
 cases hm
 exact RetY.le (leD.refl _)
 cases hm
 exact RetY.le (leD.refl _)
 revert hm
 refine VIf.b (fun h228 hm=> ?_) (fun h228 hm=> ?_)
 revert hm
 refine VIf.b (fun h229 hm=> ?_) (fun h229 hm=> ?_)
 refine⟨([(⟨470,475,0⟩:TSpan),(⟨476,529,2⟩:TSpan),(⟨530,532,1⟩:TSpan)]:List TSpan).flatMap TSpan.c,([(⟨470,475,0⟩:TSpan),(⟨476,529,2⟩:TSpan),(⟨530,532,1⟩:TSpan)]:List TSpan).length,⟨rfl,rfl⟩, ?_⟩
 obtain⟨x230,hx231,hm⟩:=bd_some hm
 refine CallOwn.det (d_R02_SameSpans x23 (([(⟨470,475,0⟩:TSpan),(⟨476,529,2⟩:TSpan),(⟨530,532,1⟩:TSpan)]:List TSpan)) _ hx231) ?_
 cases hm
 exact RetY.le (leD.refl _)
 cases hm
 exact RetY.le (leD.refl _)
 cases hm
 exact RetY.le (leD.refl _)
 revert hm
 refine VIf.b (fun h232 hm=> ?_) (fun h232 hm=> ?_)
 revert hm
 refine VIf.b (fun h233 hm=> ?_) (fun h233 hm=> ?_)
 refine⟨([(⟨470,475,0⟩:TSpan),(⟨476,529,2⟩:TSpan),(⟨530,532,1⟩:TSpan)]:List TSpan).flatMap TSpan.c,([(⟨470,475,0⟩:TSpan),(⟨476,529,2⟩:TSpan),(⟨530,532,1⟩:TSpan)]:List TSpan).length,⟨rfl,rfl⟩, ?_⟩
 obtain⟨x234,hx235,hm⟩:=bd_some hm
 refine CallOwn.det (d_R02_SameSpans x23 (([(⟨470,475,0⟩:TSpan),(⟨476,529,2⟩:TSpan),(⟨530,532,1⟩:TSpan)]:List TSpan)) _ hx235) ?_
 cases hm
 exact RetY.le (leD.refl _)
 cases hm
 exact RetY.le (leD.refl _)
 cases hm
 exact RetY.le (leD.refl _)
def m_slices_Delete_api_Sighting_api_Sighting (s:List TSighting) (i:Int) (j:Int):Option (List TSighting):=gd (0≤i∧i<j∧j.toNat≤s.length) (some (s.take i.toNat++s.drop j.toNat))
theorem d_slices_Delete_api_Sighting_api_Sighting (s:List TSighting) (i:Int) (j:Int) (r:List TSighting) (hm:m_slices_Delete_api_Sighting_api_Sighting s i j=some r):DoesL Try.prog 33 6 s.length (s.flatMap TSighting.c) 61 [DI i,DI j] 6 r.length (r.flatMap TSighting.c):=by
 obtain⟨hg,hm⟩:=gd_some hm
 cases hm
 exact del2_k (fun _=>rfl) hg (does_delete (X:=⟨Try.prog,tt,Try.f33.ntmps, [], [], [], [], [], []⟩) (t:=30) (tI:=3) pok Try.func33 rfl .mk rfl rfl rfl rfl rfl rfl hg)
def m_moon_CheckConflict_1 (x:TSighting) (c_0:Int):Option Bool:=
 some (x.Source==c_0)
theorem d_moon_CheckConflict_1 (x:TSighting) (c_0:Int) (r:Bool) (hm:m_moon_CheckConflict_1 x c_0=some r):Does Try.prog 32 [.agg (TSighting.c x), .ptr [DI c_0] 0] (fun x=>x=DB r):=by
 refine does_zy (X:=⟨Try.prog,tt,Try.f32.ntmps, [], [], [], [], [], []⟩) pok _ Try.func32 rfl rfl (Nat.le_of_ble_eq_true rfl) ?_
 cases hm
 exact RetY.le (leD.refl _)
def m_slices_IndexFunc_api_Sighting_api_Sighting__moon_CheckConflict_1_L1 (s:(List TSighting)) (c1_0:Int):Int→Option (Sum Int (Sum Int Int)):=fun v7=>
 if(decide (v7<(s.length:Int)))=true then
  Option.bind (idx s v7) fun e15=>
  Option.bind (m_moon_CheckConflict_1 e15 c1_0) fun x17=>
  if x17=true then
   some (.inr (.inr v7))
  else
   some (.inl (W (v7+1)))
 else
  some (.inr (.inl v7))
def m_slices_IndexFunc_api_Sighting_api_Sighting__moon_CheckConflict_1 (s:(List TSighting)) (c1_0:Int):Option Int:=
 Option.bind (loopF (m_slices_IndexFunc_api_Sighting_api_Sighting__moon_CheckConflict_1_L1 s c1_0) 0) fun e=>
 match e with
 | .inl v20=>
  some (-1)
 | .inr rr21=>
  some rr21
theorem d_slices_IndexFunc_api_Sighting_api_Sighting__moon_CheckConflict_1 (s:(List TSighting)) (c1_0:Int) (r:Int) (hm:m_slices_IndexFunc_api_Sighting_api_Sighting__moon_CheckConflict_1 s c1_0=some r):Does Try.prog 31 [lD 6 s TSighting.c, .fn 32 [] [.ptr [DI c1_0] 0]] (fun x=>x=DI r):=by
 refine does_zy (X:=⟨Try.prog,tt,Try.f31.ntmps, [], [], [], [], [], []⟩) pok _ Try.func31 rfl rfl (Nat.le_of_ble_eq_true rfl) ?_
 obtain⟨ev22,he,hk23⟩:=bd_some hm
 refine LoopY.ofL (m_slices_IndexFunc_api_Sighting_api_Sighting__moon_CheckConflict_1_L1 s c1_0) (fun v7=>⟨[(0,lD 6 s TSighting.c),(1, .fn 32 [] [.ptr [DI c1_0] 0]),(4,DI 0),(7,DI (s.length:Int)),(8,DI v7)], [],0⟩) 0 (SubY.of 0 rfl ⟨tR rfl,tR rfl,tR rfl,tR rfl,tR rfl,trivial⟩ trivial) he ?_
 rintro fu24 v7 b hm hi25
 revert hm
 refine VIf.b (fun h26 hm=> ?_) (fun h26 hm=> ?_)
 obtain⟨e27,hx28,hm⟩:=bd_some hm
 refine⟨_,el_idx (fun _=>rfl) hx28, ?_⟩
 obtain⟨x29,hx30,hm⟩:=bd_some hm
 refine CallY.det (d_moon_CheckConflict_1 e27 c1_0 _ hx30) ?_
 revert hm
 refine VIf.b (fun h31 hm=> ?_) (fun h31 hm=> ?_)
 cases hm
 cases hi25
 have hm:=hk23
 cases hm
 exact RetY.le (leD.refl _)
 cases hm
 exact⟨(_,(W (v7+1))),SubY.of 0 rfl ⟨tR rfl,tR rfl,tR rfl,tR rfl,tR rfl,trivial⟩ trivial,hi25,Nat.lt_succ_self _⟩
 cases hm
 cases hi25
 have hm:=hk23
 cases hm
 exact RetY.le (leD.refl _)
def m_moon_CheckConflict_L1 (by_:(List Int)):Unit→Option (Sum Unit Unit):=fun _=>
 if(decide (0<(by_.length:Int)))=true then
  Option.bind (idx by_ 0) fun e10=>
  none
 else
  some (.inr ())
def m_moon_CheckConflict_L2 (by_:(List Int)) (p4:Tknown):((List TSighting)×Int)→Option (Sum ((List TSighting)×Int) (Sum ((List TSighting)×Int) Int)):=fun(l28,v29)=>
 if(decide (v29<(by_.length:Int)))=true then
  Option.bind (idx by_ v29) fun e45=>
  Option.bind (m_slices_IndexFunc_api_Sighting_api_Sighting__moon_CheckConflict_1 p4.sightings e45) fun x47=>
  if(decide (x47<0))=true then
   some (.inr (.inr 26))
  else
   if(decide (v29>0))=true then
    Option.bind (idx by_ (W (v29-1))) fun e51=>
    if(decide (e51≥e45))=true then
     some (.inr (.inr 26))
    else
     Option.bind (idx p4.sightings x47) fun e54=>
     gd ((l28.length+([e54]:List TSighting).length)*48≤140737488355328∧l28.length+([e54]:List TSighting).length≤9223372036854775807)<|
     some (.inl ((l28++([e54]:List TSighting)),(W (v29+1))))
   else
    Option.bind (idx p4.sightings x47) fun e56=>
    gd ((l28.length+([e56]:List TSighting).length)*48≤140737488355328∧l28.length+([e56]:List TSighting).length≤9223372036854775807)<|
    some (.inl ((l28++([e56]:List TSighting)),(W (v29+1))))
 else
  some (.inr (.inl (l28,v29)))
def m_moon_CheckConflict_L3 (p4:Tknown) (l58:(List TSighting)):Int→Option (Sum Int (Sum Int Int)):=fun v71=>
 if(decide (v71<(l58.length:Int)))=true then
  Option.bind (m_slices_Clone_api_Sighting_api_Sighting l58) fun x81=>
  Option.bind (m_slices_Delete_api_Sighting_api_Sighting x81 v71 (W (v71+1))) fun x83=>
  Option.bind (m_moon_known_clash p4 x83) fun x85=>
  if x85=true then
   some (.inr (.inr 26))
  else
   some (.inl (W (v71+1)))
 else
  some (.inr (.inl v71))
def m_moon_CheckConflict (s:TSky) (night:Int) (known:Int) (by_:(List Int)):Option Int:=
 Option.bind (m_moon_look s night known []) fun⟨x1,x2⟩=>
 optM x1 (
  if(x2 !=0)=true then
   some x2
  else
   Option.bind (loopF (m_moon_CheckConflict_L1 by_) ()) fun _=>
   none) fun p4=>
 if(x2 !=0)=true then
  some x2
 else
  Option.bind (loopF (m_moon_CheckConflict_L2 by_ p4) ([],0)) fun e=>
  match e with
  | .inl (l58,v59)=>
   Option.bind (m_moon_known_clash p4 l58) fun x60=>
   if(!x60)=true then
    some 26
   else
    Option.bind (loopF (m_moon_CheckConflict_L3 p4 l58) 0) fun e=>
    match e with
    | .inl v88=>
     some 0
    | .inr rr89=>
     some rr89
  | .inr rr102=>
   some rr102
theorem d_moon_CheckConflict (s:TSky) (night:Int) (known:Int) (by_:(List Int)) (r:Int) (hm:m_moon_CheckConflict s night known by_=some r):Does Try.prog 10 [.agg (TSky.c s),DI night,DI known,lD 1 by_ cI] (fun x=>x=DI r):=by
 refine does_zy (X:=⟨Try.prog,tt,Try.f10.ntmps,pl10, [33,57], [34], [], [], []⟩) pok _ Try.func10 rfl rfl (Nat.le_of_ble_eq_true rfl) ?_
 obtain⟨⟨x1,x2⟩,hx3,hm⟩:=bd_some hm
 refine CallY.det ((d_moon_look s night known [] _ hx3).le ⟨leD.refl _,leD.refl _,leD.refl _,leD.nil,trivial⟩) ?_
 rcases x1 with _|p4
 replace hm:=opt_none hm
 revert hm
 refine VIf.b (fun h5 hm=> ?_) (fun h5 hm=> ?_)
 cases hm
 exact RetY.le (leD.refl _)
 obtain⟨ev12,he,hk13⟩:=bd_some hm
 refine LoopY.ofL (m_moon_CheckConflict_L1 by_) (fun _=>⟨[(0, .agg [lD 9 s.Sheets TSheet.c,lD 3 s.Roofs TRoof.c,lD 6 s.Sightings TSighting.c]),(1,DI night),(2,DI known),(3,lD 1 by_ cI),(4, .own 0 0),(8,DI 0),(9, .v (.pointer none)),(10,DI x2),(11, .v (.slice none 0 0)),(24,DB (x2 !=0)),(26,lD 1 by_ cI),(27,DI (by_.length:Int)),(28,DI 0)], [(0, .blk [lD 9 s.Sheets TSheet.c,lD 3 s.Roofs TRoof.c,lD 6 s.Sightings TSighting.c] 32)],1⟩) () (SubY.of 1 rfl ⟨tR rfl,tR rfl,tR rfl,tR rfl,tR rfl,tR rfl,tR rfl,tR rfl,tR rfl,tR rfl,tR rfl,tR rfl,tR rfl,trivial⟩ ⟨hR rfl,trivial⟩) he ?_
 rintro fu14 ⟨⟩ b hm hi15
 revert hm
 refine VIf.b (fun h16 hm=> ?_) (fun h16 hm=> ?_)
 obtain⟨e17,hx18,hm⟩:=bd_some hm
 refine⟨_,el_idx (fun _=>rfl) hx18, ?_⟩
 cases hm
 cases hm
 cases hi15
 have hm:=hk13
 cases hm
 replace hm:=opt_some hm
 revert hm
 refine VIf.b (fun h19 hm=> ?_) (fun h19 hm=> ?_)
 cases hm
 exact RetY.le (leD.refl _)
 obtain⟨ev103,he,hk104⟩:=bd_some hm
 refine LoopY.ofL (m_moon_CheckConflict_L2 by_ p4) (fun(l28,v29)=>⟨[(0, .agg [lD 9 s.Sheets TSheet.c,lD 3 s.Roofs TRoof.c,lD 6 s.Sightings TSighting.c]),(1,DI night),(2,DI known),(3,lD 1 by_ cI),(4, .own 0 0),(8,DI 0),(9, .ptr [DI p4.Sheet.Source,DI p4.Sheet.Night,DI p4.Sheet.Known,DI p4.Sheet.Until,lD 5 p4.Sheet.Rows TRow.c,DI p4.Sheet.Off.Num,DI p4.Sheet.Off.Den,DI p4.Sheet.Light.Lo,DI p4.Sheet.Light.Hi,lD 3 p4.roofs TRoof.c,lD 6 p4.sightings TSighting.c,DI p4.slip.Lo.Num,DI p4.slip.Lo.Den,DB p4.slip.Open,DI p4.slip.Hi.Num,DI p4.slip.Hi.Den] 0),(10,DI x2),(11, .row 1 6),(24,DB (x2 !=0)),(26,lD 1 by_ cI),(27,DI (by_.length:Int)),(28,DI v29)], [(0, .blk [lD 9 s.Sheets TSheet.c,lD 3 s.Roofs TRoof.c,lD 6 s.Sightings TSighting.c] 32),(1,rE 6 l28 TSighting.c 61)],2⟩) ([],0) (SubY.of 1 rfl ⟨tR rfl,tR rfl,tR rfl,tR rfl,tR rfl,tR rfl,tR rfl,tR rfl,tR rfl,tR rfl,tR rfl,tR rfl,tR rfl,trivial⟩ ⟨hR rfl,⟨rfl,rfl⟩,trivial⟩) he ?_
 rintro fu105 ⟨l28,v29⟩ b hm hi106
 revert hm
 refine VIf.b (fun h107 hm=> ?_) (fun h107 hm=> ?_)
 obtain⟨e108,hx109,hm⟩:=bd_some hm
 refine⟨_,el_idx (fun _=>rfl) hx109, ?_⟩
 obtain⟨x110,hx111,hm⟩:=bd_some hm
 refine CallOwn.det (d_slices_IndexFunc_api_Sighting_api_Sighting__moon_CheckConflict_1 p4.sightings e108 _ hx111) ?_
 refine⟨rfl, ?_⟩
 revert hm
 refine VIf.b (fun h112 hm=> ?_) (fun h112 hm=> ?_)
 cases hm
 cases hi106
 have hm:=hk104
 cases hm
 exact RetY.le (leD.refl _)
 revert hm
 refine VIf.b (fun h113 hm=> ?_) (fun h113 hm=> ?_)
 obtain⟨e114,hx115,hm⟩:=bd_some hm
 refine⟨_,el_idx (fun _=>rfl) hx115, ?_⟩
 revert hm
 refine VIf.b (fun h116 hm=> ?_) (fun h116 hm=> ?_)
 cases hm
 cases hi106
 have hm:=hk104
 cases hm
 exact RetY.le (leD.refl _)
 obtain⟨e117,hx118,hm⟩:=bd_some hm
 refine⟨_,el_idx (fun _=>rfl) hx118, ?_⟩
 refine⟨([e117]:List TSighting).flatMap TSighting.c,([e117]:List TSighting).length,⟨rfl,rfl⟩, ?_⟩
 obtain⟨hg,hm⟩:=gd_some hm
 refine⟨hg,_,_,flat_app (c:=TSighting.c) (l:=(l28:List TSighting)) (r:=(([e117]:List TSighting):List TSighting)), ?_⟩
 cases hm
 exact⟨(_,((l28++([e117]:List TSighting)),(W (v29+1)))),SubY.of 2 rfl ⟨tR rfl,tR rfl,tR rfl,tR rfl,tR rfl,tR rfl,tR rfl,tR rfl,tR rfl,tR rfl,tR rfl,tR rfl,tR rfl,trivial⟩ ⟨hR rfl,hW rfl,trivial⟩,hi106,Nat.lt_succ_self _⟩
 obtain⟨e119,hx120,hm⟩:=bd_some hm
 refine⟨_,el_idx (fun _=>rfl) hx120, ?_⟩
 refine⟨([e119]:List TSighting).flatMap TSighting.c,([e119]:List TSighting).length,⟨rfl,rfl⟩, ?_⟩
 obtain⟨hg,hm⟩:=gd_some hm
 refine⟨hg,_,_,flat_app (c:=TSighting.c) (l:=(l28:List TSighting)) (r:=(([e119]:List TSighting):List TSighting)), ?_⟩
 cases hm
 exact⟨(_,((l28++([e119]:List TSighting)),(W (v29+1)))),SubY.of 2 rfl ⟨tR rfl,tR rfl,tR rfl,tR rfl,tR rfl,tR rfl,tR rfl,tR rfl,tR rfl,tR rfl,tR rfl,tR rfl,tR rfl,trivial⟩ ⟨hR rfl,hW rfl,trivial⟩,hi106,Nat.lt_succ_self _⟩
 cases hm
 cases hi106
 have hm:=hk104
 obtain⟨x121,hx122,hm⟩:=bd_some hm
 refine CallOwn.det (d_moon_known_clash p4 l28 _ hx122) ?_
 revert hm
 refine VIf.b (fun h123 hm=> ?_) (fun h123 hm=> ?_)
 cases hm
 exact RetY.le (leD.refl _)
 obtain⟨ev151,he,hk152⟩:=bd_some hm
 refine LoopY.ofL (m_moon_CheckConflict_L3 p4 l28) (fun v132=>⟨[(0, .agg [lD 9 s.Sheets TSheet.c,lD 3 s.Roofs TRoof.c,lD 6 s.Sightings TSighting.c]),(1,DI night),(2,DI known),(3,lD 1 by_ cI),(4, .own 0 0),(8,DI 0),(9, .ptr [DI p4.Sheet.Source,DI p4.Sheet.Night,DI p4.Sheet.Known,DI p4.Sheet.Until,lD 5 p4.Sheet.Rows TRow.c,DI p4.Sheet.Off.Num,DI p4.Sheet.Off.Den,DI p4.Sheet.Light.Lo,DI p4.Sheet.Light.Hi,lD 3 p4.roofs TRoof.c,lD 6 p4.sightings TSighting.c,DI p4.slip.Lo.Num,DI p4.slip.Lo.Den,DB p4.slip.Open,DI p4.slip.Hi.Num,DI p4.slip.Hi.Den] 0),(10,DI x2),(11,lD 6 l28 TSighting.c),(24,DB (x2 !=0)),(26,lD 1 by_ cI),(27,DI (by_.length:Int)),(28,DI v29),(29,DB (decide (v29<(by_.length:Int)))),(68,DB (!x121)),(70,DI (l28.length:Int)),(71,DI v132)], [(0, .blk [lD 9 s.Sheets TSheet.c,lD 3 s.Roofs TRoof.c,lD 6 s.Sightings TSighting.c] 32)],2⟩) 0 (SubY.fz [1] rfl 2 rfl ⟨tR rfl,tR rfl,tR rfl,tR rfl,tR rfl,tR rfl,tR rfl,tR rfl,tR rfl,tR rfl,tR rfl,tR rfl,tR rfl,tR rfl,tR rfl,tR rfl,tR rfl,trivial⟩ ⟨hR rfl,trivial⟩) he ?_
 rintro fu153 v132 b hm hi154
 revert hm
 refine VIf.b (fun h155 hm=> ?_) (fun h155 hm=> ?_)
 obtain⟨x156,hx157,hm⟩:=bd_some hm
 refine .inl (CallU.mk ⟨_,_,_,_,u_slices_Clone_api_Sighting_api_Sighting l28 _ hx157, ?_⟩)
 obtain⟨x158,hx159,hm⟩:=bd_some hm
 refine .inl (CallL.mk ⟨_,_,_,_,_,_,_,rfl,d_slices_Delete_api_Sighting_api_Sighting x156 v132 (W (v132+1)) _ hx159, ?_⟩)
 obtain⟨x160,hx161,hm⟩:=bd_some hm
 refine CallOwn.det (d_moon_known_clash p4 x158 _ hx161) ?_
 revert hm
 refine VIf.b (fun h162 hm=> ?_) (fun h162 hm=> ?_)
 cases hm
 cases hi154
 have hm:=hk152
 cases hm
 exact RetY.le (leD.refl _)
 cases hm
 exact⟨(_,(W (v132+1))),SubY.of 2 rfl ⟨tR rfl,tR rfl,tR rfl,tR rfl,tR rfl,tR rfl,tR rfl,tR rfl,tR rfl,tR rfl,tR rfl,tR rfl,tR rfl,tR rfl,tR rfl,tR rfl,tR rfl,trivial⟩ ⟨hR rfl,trivial⟩,hi154,Nat.lt_succ_self _⟩
 cases hm
 cases hi154
 have hm:=hk152
 cases hm
 exact RetY.le (leD.refl _)
def m_L02_MoonTwo (r_:TRaw) (night:Int) (by_:(List Int)):Option Bool:=
 Option.bind (m_R02_Made r_) fun x1=>
 Option.bind (m_R02_Mod night 2) fun x3=>
 Option.bind (m_moon_InForce x1 (W (5+x3)) 20) fun⟨x5,x6⟩=>
 if(x6 !=0)=true then
  if(x6==25)=true then
   Option.bind (m_L02_sane) fun x10=>
   some x10
  else
   some false
 else
  Option.bind (m_moon_Slip x1 (W (5+x3)) 20) fun⟨x12,x13⟩=>
  Option.bind (m_moon_Conflict x1 (W (5+x3)) 20) fun⟨x15,x16⟩=>
  if(x13==0)=true then
   if(x16==27)=true then
    Option.bind (m_moon_CheckConflict x1 (W (5+x3)) 20 by_) fun x20=>
    if(x20==26)=true then
     Option.bind (m_L02_sane) fun x23=>
     some x23
    else
     some false
   else
    some false
  else
   if(x13==26)=true then
    if(x16==0)=true then
     if((x15.length:Int)==1)=true then
      Option.bind (m_moon_CheckConflict x1 (W (5+x3)) 20 x15) fun x28=>
      if(x28==0)=true then
       Option.bind (m_L02_sane) fun x31=>
       some x31
      else
       some false
     else
      if((x15.length:Int)==2)=true then
       Option.bind (m_moon_CheckConflict x1 (W (5+x3)) 20 x15) fun x34=>
       if(x34==0)=true then
        Option.bind (m_L02_sane) fun x37=>
        some x37
       else
        some false
      else
       some false
    else
     some false
   else
    some false
theorem d_L02_MoonTwo (r_:TRaw) (night:Int) (by_:(List Int)) (r:Bool) (hm:m_L02_MoonTwo r_ night by_=some r):Does Try.prog 3 [.agg (TRaw.c r_),DI night,lD 1 by_ cI] (fun x=>x=DB r):=by
 refine does_zy (X:=⟨Try.prog,tt,Try.f3.ntmps, [], [], [], [], [], []⟩) pok _ Try.func3 rfl rfl (Nat.le_of_ble_eq_true rfl) ?_
 obtain⟨x1,hx2,hm⟩:=bd_some hm
 refine CallY.det (d_R02_Made r_ _ hx2) ?_
 obtain⟨x3,hx4,hm⟩:=bd_some hm
 refine CallY.det (d_R02_Mod night 2 _ hx4) ?_
 obtain⟨⟨x5,x6⟩,hx7,hm⟩:=bd_some hm
 refine CallY.det (d_moon_InForce x1 (W (5+x3)) 20 _ hx7) ?_
 revert hm
 refine VIf.b (fun h8 hm=> ?_) (fun h8 hm=> ?_)
 revert hm
 refine VIf.b (fun h9 hm=> ?_) (fun h9 hm=> ?_)
 obtain⟨x10,hx11,hm⟩:=bd_some hm
 refine CallY.det (d_L02_sane _ hx11) ?_
 cases hm
 exact RetY.le (leD.refl _)
 cases hm
 exact RetY.le (leD.refl _)
 obtain⟨⟨x12,x13⟩,hx14,hm⟩:=bd_some hm
 refine CallY.det (d_moon_Slip x1 (W (5+x3)) 20 _ hx14) ?_
 obtain⟨⟨x15,x16⟩,hx17,hm⟩:=bd_some hm
 refine CallY.det (d_moon_Conflict x1 (W (5+x3)) 20 _ hx17) ?_
 revert hm
 refine VIf.b (fun h18 hm=> ?_) (fun h18 hm=> ?_)
 revert hm
 refine VIf.b (fun h19 hm=> ?_) (fun h19 hm=> ?_)
 obtain⟨x20,hx21,hm⟩:=bd_some hm
 refine CallY.det (d_moon_CheckConflict x1 (W (5+x3)) 20 by_ _ hx21) ?_
 revert hm
 refine VIf.b (fun h22 hm=> ?_) (fun h22 hm=> ?_)
 obtain⟨x23,hx24,hm⟩:=bd_some hm
 refine CallY.det (d_L02_sane _ hx24) ?_
 cases hm
 exact RetY.le (leD.refl _)
 cases hm
 exact RetY.le (leD.refl _)
 cases hm
 exact RetY.le (leD.refl _)
 revert hm
 refine VIf.b (fun h25 hm=> ?_) (fun h25 hm=> ?_)
 revert hm
 refine VIf.b (fun h26 hm=> ?_) (fun h26 hm=> ?_)
 revert hm
 refine VIf.b (fun h27 hm=> ?_) (fun h27 hm=> ?_)
 obtain⟨x28,hx29,hm⟩:=bd_some hm
 refine CallY.det (d_moon_CheckConflict x1 (W (5+x3)) 20 x15 _ hx29) ?_
 revert hm
 refine VIf.b (fun h30 hm=> ?_) (fun h30 hm=> ?_)
 obtain⟨x31,hx32,hm⟩:=bd_some hm
 refine CallY.det (d_L02_sane _ hx32) ?_
 cases hm
 exact RetY.le (leD.refl _)
 cases hm
 exact RetY.le (leD.refl _)
 revert hm
 refine VIf.b (fun h33 hm=> ?_) (fun h33 hm=> ?_)
 obtain⟨x34,hx35,hm⟩:=bd_some hm
 refine CallY.det (d_moon_CheckConflict x1 (W (5+x3)) 20 x15 _ hx35) ?_
 revert hm
 refine VIf.b (fun h36 hm=> ?_) (fun h36 hm=> ?_)
 obtain⟨x37,hx38,hm⟩:=bd_some hm
 refine CallY.det (d_L02_sane _ hx38) ?_
 cases hm
 exact RetY.le (leD.refl _)
 cases hm
 exact RetY.le (leD.refl _)
 cases hm
 exact RetY.le (leD.refl _)
 cases hm
 exact RetY.le (leD.refl _)
 cases hm
 exact RetY.le (leD.refl _)
end Go.Proofs.Ytnehgkfgenhgcaa
