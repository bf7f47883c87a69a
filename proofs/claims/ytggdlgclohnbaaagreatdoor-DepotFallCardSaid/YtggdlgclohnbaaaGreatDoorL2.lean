/- Functions of the program as pure Lean functions, and that calls do what these say. Printed by a program out of the given form. -/
import Derived.Test.YtggdlgclohnbaaaGreatDoorI1
set_option linter.unusedVariables false
set_option linter.unusedSimpArgs false
namespace Go.Proofs.YtggdlgclohnbaaaGreatDoor
open Go Go.RowKit Go.Sx
set_option maxRecDepth 100000
set_option maxHeartbeats 20000000
def m_slices_Concat_api_Card_api_Card_L1 (slices:(List (List TCard))):(Int×Int)→Option (Sum (Int×Int) (Int×Int)):=fun(size5,v6)=>
 if(decide (v6<(slices.length:Int)))=true then
  Option.bind (idx slices v6) fun e12=>
  if(decide ((W (size5+(e12.length:Int)))<0))=true then
   none
  else
   some (.inl ((W (size5+(e12.length:Int))),(W (v6+1))))
 else
  some (.inr (size5,v6))
def m_slices_Concat_api_Card_api_Card_L2 (slices:(List (List TCard))):(Int×(List TCard))→Option (Sum (Int×(List TCard)) (Int×(List TCard))):=fun(v22,v23)=>
 if(decide (v22<(slices.length:Int)))=true then
  Option.bind (idx slices v22) fun e28=>
  gd ((v23.length+e28.length)*48≤140737488355328∧v23.length+e28.length≤9223372036854775807)<|
  some (.inl ((W (v22+1)),(v23++e28)))
 else
  some (.inr (v22,v23))
def m_slices_Concat_api_Card_api_Card (slices:(List (List TCard))):Option (List TCard):=
 Option.bind (loopF (m_slices_Concat_api_Card_api_Card_L1 slices) (0,0)) fun(size15,v16)=>
 gd (0≤size15∧size15*48≤140737488355328)<|
 Option.bind (loopF (m_slices_Concat_api_Card_api_Card_L2 slices) (0,([]:List TCard))) fun(v30,v31)=>
 some v31
theorem d_slices_Concat_api_Card_api_Card (slices:(List (List TCard))) (r:(List TCard)) (hm:m_slices_Concat_api_Card_api_Card slices=some r):Does Tryz.prog 131 [lD 1 slices (fun(x:(List TCard))=> [lD 5 x TCard.c])] (fun x=>x=lD 5 r TCard.c):=by
 refine does_zy (X:=⟨Tryz.prog,tt,Tryz.f131.ntmps, [], [80,112,155,175], [159], [], [], []⟩) pok _ Tryz.func131 rfl rfl (Nat.le_of_ble_eq_true rfl) ?_
 obtain⟨ev39,he,hk40⟩:=bd_some hm
 refine LoopY.ofL (m_slices_Concat_api_Card_api_Card_L1 slices) (fun(size5,v6)=>⟨[(0,lD 1 slices (fun(x:(List TCard))=> [lD 5 x TCard.c])),(3,DI size5),(9,lD 1 slices (fun(x:(List TCard))=> [lD 5 x TCard.c])),(10,DI (slices.length:Int)),(11,DI v6)], [],0⟩) (0,0) (SubY.of 0 rfl ⟨tR rfl,tR rfl,tR rfl,tR rfl,tR rfl,trivial⟩ trivial) he ?_
 rintro fu41 ⟨size5,v6⟩ b hm hi42
 revert hm
 refine VIf.b (fun h43 hm=> ?_) (fun h43 hm=> ?_)
 obtain⟨e44,hx45,hm⟩:=bd_some hm
 refine⟨_,el_idx (fun _=>rfl) hx45, ?_⟩
 revert hm
 refine VIf.b (fun h46 hm=> ?_) (fun h46 hm=> ?_)
 cases hm
 cases hm
 exact⟨(_,((W (size5+(e44.length:Int))),(W (v6+1)))),SubY.of 0 rfl ⟨tR rfl,tR rfl,tR rfl,tR rfl,tR rfl,trivial⟩ trivial,hi42,Nat.lt_succ_self _⟩
 cases hm
 cases hi42
 have hm:=hk40
 obtain⟨hg,hm⟩:=gd_some hm
 refine .inl (CallU.mk ⟨_,_,_,_,u_slices_Grow_api_Card_api_Card size5 hg, ?_⟩)
 obtain⟨ev62,he,hk63⟩:=bd_some hm
 refine LoopY.ofL (m_slices_Concat_api_Card_api_Card_L2 slices) (fun(v52,v53)=>⟨[(6, .row 0 5),(25,lD 1 slices (fun(x:(List TCard))=> [lD 5 x TCard.c])),(26,DI (slices.length:Int)),(27,DI v52)], [(0,rE 5 v53 TCard.c 53)],1⟩) (0,([]:List TCard)) (SubY.of 1 rfl ⟨tR rfl,tR rfl,tR rfl,tR rfl,trivial⟩ ⟨hW rfl,trivial⟩) he ?_
 rintro fu64 ⟨v52,v53⟩ b hm hi65
 revert hm
 refine VIf.b (fun h66 hm=> ?_) (fun h66 hm=> ?_)
 obtain⟨e67,hx68,hm⟩:=bd_some hm
 refine⟨_,el_idx (fun _=>rfl) hx68, ?_⟩
 obtain⟨hg,hm⟩:=gd_some hm
 refine⟨hg,_,_,flat_app (c:=TCard.c) (l:=(v53:List TCard)) (r:=(e67:List TCard)), ?_⟩
 cases hm
 exact⟨(_,((W (v52+1)),(v53++e67))),SubY.of 1 rfl ⟨tR rfl,tR rfl,tR rfl,tR rfl,trivial⟩ ⟨hW rfl,trivial⟩,hi65,Nat.lt_succ_self _⟩
 cases hm
 cases hi65
 have hm:=hk63
 cases hm
 exact RetY.le (leD.refl _)
def m_depot_all (b_:TBox):Option (List TCard):=
 Option.bind (m_slices_Concat_api_Card_api_Card ([b_.Thread,b_.Loose]:List (List TCard))) fun x1=>
 some x1
theorem d_depot_all (b_:TBox) (r:(List TCard)) (hm:m_depot_all b_=some r):Does Tryz.prog 77 [.agg (TBox.c b_)] (fun x=>x=lD 5 r TCard.c):=by
 refine does_zy (X:=⟨Tryz.prog,tt,Tryz.f77.ntmps, [], [], [], [], [], []⟩) pok _ Tryz.func77 rfl rfl (Nat.le_of_ble_eq_true rfl) ?_
 refine⟨([b_.Thread,b_.Loose]:List (List TCard)).flatMap (fun(x:(List TCard))=> [lD 5 x TCard.c]),([b_.Thread,b_.Loose]:List (List TCard)).length,⟨rfl,rfl⟩, ?_⟩
 obtain⟨x1,hx2,hm⟩:=bd_some hm
 refine CallOwn.det (d_slices_Concat_api_Card_api_Card (([b_.Thread,b_.Loose]:List (List TCard))) _ hx2) ?_
 cases hm
 exact RetY.le (leD.refl _)
def m_depot_isWhole (c:TCard):Option Bool:=
 Option.bind (m_depot_within c.No 0 59) fun x1=>
 if x1=true then
  Option.bind (m_depot_within c.Parts 1 10) fun x4=>
  if x4=true then
   Option.bind (m_depot_within c.Part 0 (W (c.Parts-1))) fun x7=>
   if x7=true then
    Option.bind (m_depot_within c.Size 1 24) fun x10=>
    if x10=true then
     some ((c.Text.size:Int)==c.Size)
    else
     some false
   else
    some false
  else
   some false
 else
  some false
theorem d_depot_isWhole (c:TCard) (r:Bool) (hm:m_depot_isWhole c=some r):Does Tryz.prog 100 [.agg (TCard.c c)] (fun x=>x=DB r):=by
 refine does_zy (X:=⟨Tryz.prog,tt,Tryz.f100.ntmps, [], [], [], [], [], []⟩) pok _ Tryz.func100 rfl rfl (Nat.le_of_ble_eq_true rfl) ?_
 obtain⟨x1,hx2,hm⟩:=bd_some hm
 refine CallY.det (d_depot_within c.No 0 59 _ hx2) ?_
 revert hm
 refine VIf.b (fun h3 hm=> ?_) (fun h3 hm=> ?_)
 obtain⟨x4,hx5,hm⟩:=bd_some hm
 refine CallY.det (d_depot_within c.Parts 1 10 _ hx5) ?_
 revert hm
 refine VIf.b (fun h6 hm=> ?_) (fun h6 hm=> ?_)
 obtain⟨x7,hx8,hm⟩:=bd_some hm
 refine CallY.det (d_depot_within c.Part 0 (W (c.Parts-1)) _ hx8) ?_
 revert hm
 refine VIf.b (fun h9 hm=> ?_) (fun h9 hm=> ?_)
 obtain⟨x10,hx11,hm⟩:=bd_some hm
 refine CallY.det (d_depot_within c.Size 1 24 _ hx11) ?_
 revert hm
 refine VIf.b (fun h12 hm=> ?_) (fun h12 hm=> ?_)
 cases hm
 exact RetY.le (leD.refl _)
 cases hm
 exact RetY.le (leD.refl _)
 cases hm
 exact RetY.le (leD.refl _)
 cases hm
 exact RetY.le (leD.refl _)
 cases hm
 exact RetY.le (leD.refl _)
def m_depot_whole (b_:TBox):Option TBox:=
 some b_
theorem d_depot_whole (b_:TBox) (r:TBox) (hm:m_depot_whole b_=some r):Does Tryz.prog 69 [.agg (TBox.c b_)] (fun x=>x= .fn 128 [] [.ptr [lD 5 r.Thread TCard.c,lD 5 r.Loose TCard.c] 0]):=by
 refine does_zy (X:=⟨Tryz.prog,tt,Tryz.f69.ntmps, [], [], [], [], [], []⟩) pok _ Tryz.func69 rfl rfl (Nat.le_of_ble_eq_true rfl) ?_
 cases hm
 exact RetY.le (leD.refl _)
def m_internal_stringslite_Clone (s:ByteArray):Option ByteArray:=gd (s.size≤281474976710656) (some s)
theorem d_internal_stringslite_Clone (s:ByteArray) (r:ByteArray) (hm:m_internal_stringslite_Clone s=some r):Does Tryz.prog 134 [.v (.string s)] (fun x=>x= .v (.string r)):=by
 obtain⟨hg,hm⟩:=gd_some hm
 cases hm
 exact does_sclone lay_sclone s hg
def m_depot_has_L1 (l:(List TRecord)):(Int×Int×Int×Int×Int×Int×Int)→Option (Sum (Int×Int×Int×Int×Int×Int×Int) (Int×Int×Int×Int×Int×Int×Int)):=fun(v15,v16,v17,v18,v19,v20,v21)=>
 if(decide (v15<(l.length:Int)))=true then
  Option.bind (idx l v15) fun e37=>
  gd (0≤e37.At.Depot∧e37.At.Depot<6)<|
  Option.bind (idx [v16,v17,v18,v19,v20,v21] e37.At.Depot) fun e39=>
  gd (0≤e37.At.Depot∧e37.At.Depot<6)<|
  Option.bind (idx [v16,v17,v18,v19,v20,v21] e37.At.Depot) fun e41=>
  Option.bind (some (W (e39+1))) fun y43=>
  Option.bind (some (if(e37.At.Depot==0)=true then y43 else v16)) fun q44=>
  Option.bind (some (if(e37.At.Depot==1)=true then y43 else v17)) fun q45=>
  Option.bind (some (if(e37.At.Depot==2)=true then y43 else v18)) fun q46=>
  Option.bind (some (if(e37.At.Depot==3)=true then y43 else v19)) fun q47=>
  Option.bind (some (if(e37.At.Depot==4)=true then y43 else v20)) fun q48=>
  Option.bind (some (if(e37.At.Depot==5)=true then y43 else v21)) fun q49=>
  some (.inl ((W (v15+1)),q44,q45,q46,q47,q48,q49))
 else
  some (.inr (v15,v16,v17,v18,v19,v20,v21))
def m_depot_has (l:(List TRecord)):Option (Int×Int×Int×Int×Int×Int):=
 Option.bind (loopF (m_depot_has_L1 l) (0,0,0,0,0,0,0)) fun(v50,v51,v52,v53,v54,v55,v56)=>
 some (v51,v52,v53,v54,v55,v56)
theorem d_depot_has (l:(List TRecord)) (r:(Int×Int×Int×Int×Int×Int)) (hm:m_depot_has l=some r):Does Tryz.prog 109 [lD 8 l TRecord.c] (fun x=>x= .agg [DI r.1,DI r.2.1,DI r.2.2.1,DI r.2.2.2.1,DI r.2.2.2.2.1,DI r.2.2.2.2.2]):=by
 refine does_zy (X:=⟨Tryz.prog,tt,Tryz.f109.ntmps, [], [], [], [], [], []⟩) pok _ Tryz.func109 rfl rfl (Nat.le_of_ble_eq_true rfl) ?_
 obtain⟨ev57,he,hk58⟩:=bd_some hm
 refine LoopY.ofL (m_depot_has_L1 l) (fun(v15,v16,v17,v18,v19,v20,v21)=>⟨[(2, .own 0 0),(3, .own 1 0),(6,lD 8 l TRecord.c),(7,DI (l.length:Int)),(8,DI v15)], [(0, .blk [DI 0,DI 0,DI 0,DI 0,DI 0,DI 0] 78),(1, .blk [DI v16,DI v17,DI v18,DI v19,DI v20,DI v21] 78)],2⟩) (0,0,0,0,0,0,0) (SubY.of 2 rfl ⟨tR rfl,tR rfl,tR rfl,tR rfl,tR rfl,trivial⟩ ⟨hR rfl,hR rfl,trivial⟩) he ?_
 rintro fu59 ⟨v15,v16,v17,v18,v19,v20,v21⟩ b hm hi60
 revert hm
 refine VIf.b (fun h61 hm=> ?_) (fun h61 hm=> ?_)
 obtain⟨e62,hx63,hm⟩:=bd_some hm
 refine⟨_,el_idx (fun _=>rfl) hx63, ?_⟩
 obtain⟨hg,hm⟩:=gd_some hm
 refine⟨hg, ?_⟩
 obtain⟨e64,hx65,hm⟩:=bd_some hm
 refine⟨_,ldx (r:= [DI e64]) (c:=cI) (z:=1) (pre:= []) (post:= []) (b:=0) (off:=0) (fun _=>rfl) hx65 rfl rfl (by omega) rfl, ?_⟩
 obtain⟨hg,hm⟩:=gd_some hm
 refine⟨hg, ?_⟩
 obtain⟨e66,hx67,hm⟩:=bd_some hm
 obtain⟨y68,hy,hm⟩:=bd_some hm
 obtain⟨q69,hq0,hm⟩:=bd_some hm
 obtain⟨q70,hq1,hm⟩:=bd_some hm
 obtain⟨q71,hq2,hm⟩:=bd_some hm
 obtain⟨q72,hq3,hm⟩:=bd_some hm
 obtain⟨q73,hq4,hm⟩:=bd_some hm
 obtain⟨q74,hq5,hm⟩:=bd_some hm
 refine⟨[DI q69,DI q70,DI q71,DI q72,DI q73,DI q74],stx (y:=y68) (ys:= [q69,q70,q71,q72,q73,q74]) (c:=cI) (z:=1) (pre:= []) (post:= []) (b:=0) (off:=0) (fun _=>rfl) hx67 rfl rfl (by omega) (by cases hy;rfl) rfl (by cases hq0;cases hq1;cases hq2;cases hq3;cases hq4;cases hq5;exact selL_set hx67), ?_⟩
 clear hy hq0 hq1 hq2 hq3 hq4 hq5
 cases hm
 exact⟨(_,((W (v15+1)),q69,q70,q71,q72,q73,q74)),SubY.of 2 rfl ⟨tR rfl,tR rfl,tR rfl,tR rfl,tR rfl,trivial⟩ ⟨hR rfl,hR rfl,trivial⟩,hi60,Nat.lt_succ_self _⟩
 cases hm
 cases hi60
 have hm:=hk58
 cases hm
 exact RetY.le (leD.refl _)
def m_depot_next (l:(List TRecord)) (r_:TRecord):Option Bool:=
 if(decide ((l.length:Int)<60))=true then
  Option.bind (m_depot_has l) fun x2=>
  Option.bind (idx [x2.1,x2.2.1,x2.2.2.1,x2.2.2.2.1,x2.2.2.2.2.1,x2.2.2.2.2.2] r_.At.Depot) fun e4=>
  some (e4==r_.At.No)
 else
  some false
theorem d_depot_next (l:(List TRecord)) (r_:TRecord) (r:Bool) (hm:m_depot_next l r_=some r):Does Tryz.prog 71 [lD 8 l TRecord.c, .agg (TRecord.c r_)] (fun x=>x=DB r):=by
 refine does_zy (X:=⟨Tryz.prog,tt,Tryz.f71.ntmps,pl71, [], [], [], [], []⟩) pok _ Tryz.func71 rfl rfl (Nat.le_of_ble_eq_true rfl) ?_
 refine⟨rfl, ?_⟩
 revert hm
 refine VIf.b (fun h1 hm=> ?_) (fun h1 hm=> ?_)
 obtain⟨x2,hx3,hm⟩:=bd_some hm
 refine CallY.det (d_depot_has l _ hx3) ?_
 obtain⟨e4,hx5,hm⟩:=bd_some hm
 refine⟨idx_bd hx5,_,ldx (c:=cI) (z:=1) (pre:= []) (post:= []) (b:=0) (off:=0) (fun _=>rfl) hx5 rfl rfl (by omega) rfl, ?_⟩
 cases hm
 exact RetY.le (leD.refl _)
 cases hm
 exact RetY.le (leD.refl _)
def m_slices_Chunk_byte_byte (s:(List Int)) (n:Int):Option ((List Int)×Int):=
 if(decide (n<1))=true then
  none
 else
  some (s,n)
theorem d_slices_Chunk_byte_byte (s:(List Int)) (n:Int) (r:((List Int)×Int)) (hm:m_slices_Chunk_byte_byte s n=some r):Does Tryz.prog 144 [lD 1 s cK_u8,DI n] (fun x=>x= .fn 164 [] [.ptr [lD 1 r.1 cK_u8] 0, .ptr [DI r.2] 0]):=by
 refine does_zy (X:=⟨Tryz.prog,tt,Tryz.f144.ntmps, [], [], [], [], [], []⟩) pok _ Tryz.func144 rfl rfl (Nat.le_of_ble_eq_true rfl) ?_
 revert hm
 refine VIf.b (fun h1 hm=> ?_) (fun h1 hm=> ?_)
 cases hm
 cases hm
 exact RetY.le (leD.refl _)
def en_slices_Chunk_byte_byte_1 (x:(List Int)):List D:= [lD 1 x cK_u8]
def it_slices_Chunk_byte_byte_1_L1 (c_0:(List Int)) (c_1:Int):Int→Option (List (List Int)×Sum Int Int):=fun i5=>
 if(decide (i5<(c_0.length:Int)))=true then
  gd ((0≤i5∧i5≤(c_0.length:Int)))<|
  Option.bind (some (sub c_0 (i5).toNat c_0.length)) fun sl11=>
  gd ((0≤(W (i5+(if(sl11.length:Int)<c_1 then(sl11.length:Int)else c_1)))∧(W (i5+(if(sl11.length:Int)<c_1 then(sl11.length:Int)else c_1)))≤(c_0.length:Int))∧(0≤(W (i5+(if(sl11.length:Int)<c_1 then(sl11.length:Int)else c_1)))∧(W (i5+(if(sl11.length:Int)<c_1 then(sl11.length:Int)else c_1)))≤(W (i5+(if(sl11.length:Int)<c_1 then(sl11.length:Int)else c_1))))∧(0≤i5∧i5≤(W (i5+(if(sl11.length:Int)<c_1 then(sl11.length:Int)else c_1)))))<|
  Option.bind (some (sub c_0 (i5).toNat ((W (i5+(if(sl11.length:Int)<c_1 then(sl11.length:Int)else c_1)))).toNat)) fun sl12=>
  emit sl12<|
  some ([], .inl (W (i5+c_1)))
 else
  some ([], .inr i5)
def it_slices_Chunk_byte_byte_1 (c_0:(List Int)) (c_1:Int):Option (List (List Int)×Unit):=
 bindI (loopIF (it_slices_Chunk_byte_byte_1_L1 c_0 c_1) 0) fun i14=>
 some ([],())
theorem i_slices_Chunk_byte_byte_1 (c_0:(List Int)) (c_1:Int) (xs:List (List Int)) (hm:it_slices_Chunk_byte_byte_1 c_0 c_1=some (xs,())):DoesIt Tryz.prog 164 [.ptr [lD 1 c_0 cK_u8] 0, .ptr [DI c_1] 0] (xs.map en_slices_Chunk_byte_byte_1):=by
 refine does_zit (X:=⟨Tryz.prog,tt,Tryz.f164.ntmps,pl164, [], [], [], [], []⟩) pok _ _ [] Tryz.func164 rfl rfl (Nat.le_of_ble_eq_true rfl) rfl ?_
 intro l
 obtain⟨r,hr⟩:∃r:List (List Int)×Unit,r=(xs,()):=⟨_,rfl⟩
 rw [←hr]at hm
 have hp:Hp3 en_slices_Chunk_byte_byte_1 [] r.1 [] (xs.map en_slices_Chunk_byte_byte_1):=⟨by rw [hr];simp⟩
 clear hr
 obtain⟨ev15,rr19,he,hk16,hb1,hb2⟩:=bindI_some hm
 replace hp:=hp.in1 hb1
 clear hb1 hb2
 refine LoopI.of (fun(lpx:Nat×Int)=>match lpx with|(fu17,i5)=>(⟨[(0, .v (.func (.yield l) #[] #[])),(1, .ptr [lD 1 c_0 cK_u8] 0),(2, .ptr [DI c_1] 0),(4,DI i5)], [],0⟩:Sy)) (fun lpx q=>∃e,loopIO (it_slices_Chunk_byte_byte_1_L1 c_0 c_1) lpx.1 lpx.2=some e∧Hp3 en_slices_Chunk_byte_byte_1 q e.1 _ _∧e.2=ev15.2) (fun lpx=>lpx.1) (FUEL,0) ⟨_,he,hp,rfl⟩ (SubY.of 0 rfl ⟨tR rfl,tR rfl,tR rfl,tR rfl,trivial⟩ trivial) ?_
 clear hp he
 rintro⟨fu17,i5⟩ q ⟨el21,hi18,hp,hx22⟩
 obtain⟨fu17,b,tl,rfl,hm,hb1,hi18⟩:=loopI_step hi18
 replace hp:=hp.in1 hb1
 clear hb1
 have hq:b.2=b.2:=rfl
 revert hm
 refine VIf.b (fun h24 hm=> ?_) (fun h24 hm=> ?_)
 refine⟨rfl, ?_⟩
 obtain⟨hg,hm⟩:=gd_some hm
 obtain⟨sl25,hy,hm⟩:=bd_some hm
 refine⟨hg,_,(flat_sub (c:=cK_u8) (z:=1) (fun _=>rfl) _ _ _).trans (congrArg _ (Option.some.inj hy)), ?_⟩
 have hl:sl25.length=c_0.length-(i5).toNat:=by rw [←Option.some.inj hy];exact sub_len (by omega)
 rw [←hl]
 obtain⟨hg,hm⟩:=gd_some hm
 obtain⟨sl26,hy,hm⟩:=bd_some hm
 refine⟨hg.1,hg.2.1,hg.2.2,_,(flat_sub (c:=cK_u8) (z:=1) (fun _=>rfl) _ _ _).trans (congrArg _ (Option.some.inj hy)), ?_⟩
 have hl:sl26.length=((W (i5+(if(sl25.length:Int)<c_1 then(sl25.length:Int)else c_1)))).toNat-(i5).toNat:=by rw [←Option.some.inj hy];exact sub_len (by omega)
 rw [←hl]
 obtain⟨rb27,hm,hb1,hb2⟩:=emit_some hm
 refine YieldY.of (x':=en_slices_Chunk_byte_byte_1 sl26) rfl rfl (RetY.le (leD.refl _)) (hp.pre hb1) ?_ ?_
 replace hp:=hp.emit hb1
 replace hq:=hq.trans hb2
 cases hm
 rw [hq]at hi18
 obtain⟨e2,hm,rfl,ht⟩:=hi18
 exact⟨(fu17,(W (i5+c_1))),_,SubY.of 0 rfl ⟨tR rfl,tR rfl,tR rfl,tR rfl,trivial⟩ trivial,rfl,⟨_,hm,hp.out rfl,ht.symm.trans hx22⟩,Nat.lt_succ_self _⟩
 exact .inl rfl
 cases hm
 rw [hq]at hi18
 obtain⟨rfl,ht⟩:=hi18
 replace hp:=(hp.out (l':= []) rfl).out rfl
 have hm:=hk16
 try rw [←hx22,ht]at hm
 clear hq
 cases hm
 exact .inr (congrArg some (hp.done rfl))
def m_depot_cards_L1 (no:Int):(List TCard)→(List Int)→Option (Sum (List TCard) Unit):=fun v8 y7=>
 gd ((v8.length+([(⟨no,(v8.length:Int),0,(y7.length:Int),(bstr y7)⟩:TCard)]:List TCard).length)*48≤140737488355328∧v8.length+([(⟨no,(v8.length:Int),0,(y7.length:Int),(bstr y7)⟩:TCard)]:List TCard).length≤9223372036854775807)<|
 some (.inl (v8++([(⟨no,(v8.length:Int),0,(y7.length:Int),(bstr y7)⟩:TCard)]:List TCard)))
def m_depot_cards_L2 (v10:(List TCard)):(Int×(List TCard))→Option (Sum (Int×(List TCard)) (Int×(List TCard))):=fun(v16,v17)=>
 if(decide (v16<(v10.length:Int)))=true then
  Option.bind (idx v17 v16) fun e24=>
  Option.bind (idx v17 v16) fun e26=>
  some (.inl ((W (v16+1)),(v17.set v16.toNat (⟨e26.No,e26.Part,(v17.length:Int),e26.Size,e26.Text⟩:TCard))))
 else
  some (.inr (v16,v17))
def m_depot_cards (r_:TRecord) (no:Int):Option (List TCard):=
 Option.bind (m_depot_encode r_) fun x1=>
 gd (x1.size≤9223372036854775807)<|
 Option.bind (some (bytesI x1)) fun by3=>
 Option.bind (m_slices_Chunk_byte_byte by3 24) fun⟨x4,x5⟩=>
 Option.bind (it_slices_Chunk_byte_byte_1 x4 x5) fun l9=>
 Option.bind (rangeF (m_depot_cards_L1 no) l9.1 []) fun e=>
 match e with
 | .inl v10=>
  Option.bind (loopF (m_depot_cards_L2 v10) (0,v10)) fun(v28,v29)=>
  some v29
 | .inr _=>none
theorem d_depot_cards (r_:TRecord) (no:Int) (r:(List TCard)) (hm:m_depot_cards r_ no=some r):Does Tryz.prog 96 [.agg (TRecord.c r_),DI no] (fun x=>x=lD 5 r TCard.c):=by
 refine does_zr (X:=⟨Tryz.prog,tt,Tryz.f96.ntmps, [], [], [], [], [], []⟩) pok _ Tryz.func96 rfl rfl (Nat.le_of_ble_eq_true rfl) ?_
 intro ds
 intro ds
 intro ds
 obtain⟨x1,hx2,hm⟩:=bd_some hm
 refine CallY.det (d_depot_encode r_ _ hx2) ?_
 obtain⟨hg,hm⟩:=gd_some hm
 obtain⟨by3,hy,hm⟩:=bd_some hm
 refine⟨⟨5, .string,by kernel_rfl,by kernel_rfl,by kernel_rfl⟩,hg,_,_,bytesD_lst (fun _=>rfl) hy, ?_⟩
 clear hy
 obtain⟨⟨x4,x5⟩,hx6,hm⟩:=bd_some hm
 refine CallY.det (d_slices_Chunk_byte_byte by3 24 _ hx6) ?_
 obtain⟨l9,hl40,hm⟩:=bd_some hm
 obtain⟨ev39,he,hm⟩:=bd_some hm
 refine RangeY.ofZ (E:=Unit) en_slices_Chunk_byte_byte_1 l9.1 (m_depot_cards_L1 no) (fun(lpx:(List TCard))=>match lpx with|v8=>(⟨[(0, .agg [DI r_.At.Depot,DI r_.At.No,DI r_.Kind,DI r_.Day,DI r_.Known,DI r_.Of.Depot,DI r_.Of.No, .v (.string r_.Text)]),(1,DI no),(2, .own 0 0),(3, .own 1 0),(4, .v (.slice none 0 0)),(5, .own 2 0)], [(0, .blk [DI r_.At.Depot,DI r_.At.No,DI r_.Kind,DI r_.Day,DI r_.Known,DI r_.Of.Depot,DI r_.Of.No, .v (.string r_.Text)] 38),(1, .blk [DI no] 3),(2, .blk [.row 3 5] 22),(3,rE 5 v8 TCard.c 53)],4⟩:Sy)) (fun(_:Unit)=>(⟨[], [],0⟩:Sy)) (fun _=> .ret) [] ev39 [0,1,2,3,4,5] (i_slices_Chunk_byte_byte_1 x4 x5 l9.1 hl40) he (enters_f pok Tryz.func164 rfl) rfl rfl (fun _=>rfl) rfl rfl rfl (by rintro v8;rfl) (by intro _;rfl) (SubY.of 3 rfl ⟨tR rfl,tR rfl,tR rfl,tR rfl,tR rfl,tR rfl,trivial⟩ ⟨hR rfl,hR rfl,hR rfl,⟨rfl,rfl⟩,trivial⟩) ?_ ?_ (fun _=> .inl rfl) ?_
 rintro v10 rfl
 intro ds
 intro ds
 obtain⟨ev30,he,hk31⟩:=bd_some hm
 refine LoopY.ofL (m_depot_cards_L2 v10) (fun(v16,v17)=>⟨[(5, .own 2 0),(25,DI (v10.length:Int)),(26,DI v16)], [(2, .blk [.row 3 5] 22),(3,rE 5 v17 TCard.c 53)],4⟩) (0,v10) (SubY.of 4 rfl ⟨tR rfl,tR rfl,tR rfl,trivial⟩ ⟨hR rfl,hW rfl,trivial⟩) he ?_
 rintro fu32 ⟨v16,v17⟩ b hm hi33
 revert hm
 refine VIf.b (fun h34 hm=> ?_) (fun h34 hm=> ?_)
 obtain⟨e35,hx36,hm⟩:=bd_some hm
 refine⟨idx_bd hx36, ?_⟩
 obtain⟨e37,hx38,hm⟩:=bd_some hm
 refine⟨_,el_row (fun _=>rfl) hx38,_,set_row (y:=(⟨e37.No,e37.Part,(v17.length:Int),e37.Size,e37.Text⟩:TCard)) (fun _=>rfl) hx38, ?_⟩
 cases hm
 exact⟨(_,((W (v16+1)),(v17.set v16.toNat (⟨e37.No,e37.Part,(v17.length:Int),e37.Size,e37.Text⟩:TCard)))),SubY.of 4 rfl ⟨tR rfl,tR rfl,tR rfl,trivial⟩ ⟨hR rfl,hW rfl,trivial⟩,hi33,Nat.lt_succ_self _⟩
 cases hm
 cases hi33
 have hm:=hk31
 intro ds
 intro ds
 cases hm
 exact RetY.le (leD.refl _)
 rintro _ rfl
 cases hm
 clear he hm
 rintro v8 y7 b hm
 refine⟨⟨rfl,5,by kernel_rfl,by kernel_rfl,by kernel_rfl⟩,y7,u8_map (fun _=>rfl) _, ?_⟩
 refine⟨([(⟨no,(v8.length:Int),0,(y7.length:Int),(bstr y7)⟩:TCard)]:List TCard).flatMap TCard.c,([(⟨no,(v8.length:Int),0,(y7.length:Int),(bstr y7)⟩:TCard)]:List TCard).length,⟨rfl,rfl⟩, ?_⟩
 obtain⟨hg,hm⟩:=gd_some hm
 refine⟨hg,_,_,flat_app (c:=TCard.c) (l:=(v8:List TCard)) (r:=(([(⟨no,(v8.length:Int),0,(y7.length:Int),(bstr y7)⟩:TCard)]:List TCard):List TCard)), ?_⟩
 cases hm
 exact⟨(v8++([(⟨no,(v8.length:Int),0,(y7.length:Int),(bstr y7)⟩:TCard)]:List TCard)),rfl,SubY.of 4 rfl ⟨tR rfl,tR rfl,tR rfl,tR rfl,tR rfl,tR rfl,trivial⟩ ⟨hR rfl,hR rfl,hR rfl,hW rfl,trivial⟩⟩
def m_depot_of_L1 (l:(List TRecord)):((List TCard)×Int)→Option (Sum ((List TCard)×Int) ((List TCard)×Int)):=fun(out6,v7)=>
 if(decide (v7<(l.length:Int)))=true then
  Option.bind (idx l v7) fun e14=>
  Option.bind (m_depot_cards e14 v7) fun x16=>
  gd ((out6.length+x16.length)*48≤140737488355328∧out6.length+x16.length≤9223372036854775807)<|
  some (.inl ((out6++x16),(W (v7+1))))
 else
  some (.inr (out6,v7))
def m_depot_of (l:(List TRecord)):Option (List TCard):=
 Option.bind (loopF (m_depot_of_L1 l) ([],0)) fun(out18,v19)=>
 some out18
theorem d_depot_of (l:(List TRecord)) (r:(List TCard)) (hm:m_depot_of l=some r):Does Tryz.prog 72 [lD 8 l TRecord.c] (fun x=>x=lD 5 r TCard.c):=by
 refine does_zy (X:=⟨Tryz.prog,tt,Tryz.f72.ntmps, [], [], [], [], [], []⟩) pok _ Tryz.func72 rfl rfl (Nat.le_of_ble_eq_true rfl) ?_
 obtain⟨ev20,he,hk21⟩:=bd_some hm
 refine LoopY.ofL (m_depot_of_L1 l) (fun(out6,v7)=>⟨[(3, .row 0 5),(6,lD 8 l TRecord.c),(7,DI (l.length:Int)),(8,DI v7)], [(0,rE 5 out6 TCard.c 53)],1⟩) ([],0) (SubY.of 0 rfl ⟨tR rfl,tR rfl,tR rfl,tR rfl,trivial⟩ ⟨⟨rfl,rfl⟩,trivial⟩) he ?_
 rintro fu22 ⟨out6,v7⟩ b hm hi23
 revert hm
 refine VIf.b (fun h24 hm=> ?_) (fun h24 hm=> ?_)
 obtain⟨e25,hx26,hm⟩:=bd_some hm
 refine⟨_,el_idx (fun _=>rfl) hx26, ?_⟩
 obtain⟨x27,hx28,hm⟩:=bd_some hm
 refine CallY.det (d_depot_cards e25 v7 _ hx28) ?_
 obtain⟨hg,hm⟩:=gd_some hm
 refine⟨hg,_,_,flat_app (c:=TCard.c) (l:=(out6:List TCard)) (r:=(x27:List TCard)), ?_⟩
 cases hm
 exact⟨(_,((out6++x27),(W (v7+1)))),SubY.of 1 rfl ⟨tR rfl,tR rfl,tR rfl,tR rfl,trivial⟩ ⟨hW rfl,trivial⟩,hi23,Nat.lt_succ_self _⟩
 cases hm
 cases hi23
 have hm:=hk21
 cases hm
 exact RetY.le (leD.refl _)
abbrev m_mapty114:MTy:=⟨114,119,9, [.int .i64, .int .i64, .int .i64],true, .string (⟨#[]⟩:ByteArray)⟩
theorem d_mapty114:MTok Tryz.prog tt m_mapty114:=⟨by kernel_rfl,rfl,by kernel_rfl,by kernel_rfl,rfl⟩
abbrev m_mapty114_k (k:Tplace):List Value:= [.int .i64 k.no, .int .i64 k.part, .int .i64 k.parts]
abbrev m_mapty114_v (x:ByteArray):Value:= .string x
theorem d_mapty114_k (a b:Tplace):eqVs (m_mapty114_k a) (cellsK (mkKey true (m_mapty114_k b)))=decide (a=b):=by
 cases a;cases b;simp [eqVs,eqV,cellsK,mkKey,and_assoc];rfl
abbrev m_mapty114_e (l:List (Tplace×ByteArray)):E:= .mp (mpE true m_mapty114_k m_mapty114_v l) m_mapty114
abbrev m_mapty115:MTy:=⟨115,3,3, [.int .i64],false, .int .i64 0⟩
theorem d_mapty115:MTok Tryz.prog tt m_mapty115:=⟨by kernel_rfl,rfl,by kernel_rfl,by kernel_rfl,rfl⟩
abbrev m_mapty115_k (k:Int):List Value:= [.int .i64 k]
abbrev m_mapty115_v (x:Int):Value:= .int .i64 x
theorem d_mapty115_k (a b:Int):eqVs (m_mapty115_k a) (cellsK (mkKey false (m_mapty115_k b)))=decide (a=b):=by
 simp [eqVs,eqV,cellsK,mkKey];rfl
abbrev m_mapty115_e (l:List (Int×Int)):E:= .mp (mpE false m_mapty115_k m_mapty115_v l) m_mapty115
def en_depot_whole_1 (x:TCard):List D:= [.agg (TCard.c x)]
def it_depot_whole_1_L1 (x1:(List TCard)):Int→Option (List TCard×Sum Int Int):=fun v10=>
 if(decide (v10<(x1.length:Int)))=true then
  Option.bind (idx x1 v10) fun e19=>
  Option.bind (m_depot_isWhole e19) fun x21=>
  if x21=true then
   emit e19<|
   some ([], .inl (W (v10+1)))
  else
   some ([], .inl (W (v10+1)))
 else
  some ([], .inr v10)
def it_depot_whole_1 (c_0:TBox):Option (List TCard×Unit):=
 Option.bind (m_depot_all c_0) fun x1=>
 bindI (loopIF (it_depot_whole_1_L1 x1) 0) fun v25=>
 some ([],())
theorem i_depot_whole_1 (c_0:TBox) (xs:List TCard) (hm:it_depot_whole_1 c_0=some (xs,())):DoesIt Tryz.prog 128 [.ptr [lD 5 c_0.Thread TCard.c,lD 5 c_0.Loose TCard.c] 0] (xs.map en_depot_whole_1):=by
 refine does_zit (X:=⟨Tryz.prog,tt,Tryz.f128.ntmps, [], [], [], [], [], []⟩) pok _ _ [] Tryz.func128 rfl rfl (Nat.le_of_ble_eq_true rfl) rfl ?_
 intro l
 obtain⟨r,hr⟩:∃r:List TCard×Unit,r=(xs,()):=⟨_,rfl⟩
 rw [←hr]at hm
 have hp:Hp3 en_depot_whole_1 [] r.1 [] (xs.map en_depot_whole_1):=⟨by rw [hr];simp⟩
 clear hr
 obtain⟨x1,hx2,hm⟩:=bd_some hm
 refine CallY.det (d_depot_all c_0 _ hx2) ?_
 obtain⟨ev26,rr30,he,hk27,hb1,hb2⟩:=bindI_some hm
 replace hp:=hp.in1 hb1
 clear hb1 hb2
 refine LoopI.of (fun(lpx:Nat×Int)=>match lpx with|(fu28,v10)=>(⟨[(0, .v (.func (.yield l) #[] #[])),(1, .ptr [lD 5 c_0.Thread TCard.c,lD 5 c_0.Loose TCard.c] 0),(6,lD 5 x1 TCard.c),(7,DI (x1.length:Int)),(8,DI v10)], [],0⟩:Sy)) (fun lpx q=>∃e,loopIO (it_depot_whole_1_L1 x1) lpx.1 lpx.2=some e∧Hp3 en_depot_whole_1 q e.1 _ _∧e.2=ev26.2) (fun lpx=>lpx.1) (FUEL,0) ⟨_,he,hp,rfl⟩ (SubY.of 0 rfl ⟨tR rfl,tR rfl,tR rfl,tR rfl,tR rfl,trivial⟩ trivial) ?_
 clear hp he
 rintro⟨fu28,v10⟩ q ⟨el32,hi29,hp,hx33⟩
 obtain⟨fu28,b,tl,rfl,hm,hb1,hi29⟩:=loopI_step hi29
 replace hp:=hp.in1 hb1
 clear hb1
 have hq:b.2=b.2:=rfl
 revert hm
 refine VIf.b (fun h35 hm=> ?_) (fun h35 hm=> ?_)
 obtain⟨e36,hx37,hm⟩:=bd_some hm
 refine⟨_,el_idx (fun _=>rfl) hx37, ?_⟩
 obtain⟨x38,hx39,hm⟩:=bd_some hm
 refine CallY.det (d_depot_isWhole e36 _ hx39) ?_
 revert hm
 refine VIf.b (fun h40 hm=> ?_) (fun h40 hm=> ?_)
 obtain⟨rb41,hm,hb1,hb2⟩:=emit_some hm
 refine YieldY.of (x':=en_depot_whole_1 e36) rfl rfl (RetY.le (leD.refl _)) (hp.pre hb1) ?_ ?_
 replace hp:=hp.emit hb1
 replace hq:=hq.trans hb2
 cases hm
 rw [hq]at hi29
 obtain⟨e2,hm,rfl,ht⟩:=hi29
 exact⟨(fu28,(W (v10+1))),_,SubY.of 0 rfl ⟨tR rfl,tR rfl,tR rfl,tR rfl,tR rfl,trivial⟩ trivial,rfl,⟨_,hm,hp.out rfl,ht.symm.trans hx33⟩,Nat.lt_succ_self _⟩
 exact .inl rfl
 cases hm
 rw [hq]at hi29
 obtain⟨e2,hm,rfl,ht⟩:=hi29
 exact⟨(fu28,(W (v10+1))),_,SubY.of 0 rfl ⟨tR rfl,tR rfl,tR rfl,tR rfl,tR rfl,trivial⟩ trivial,rfl,⟨_,hm,hp.out rfl,ht.symm.trans hx33⟩,Nat.lt_succ_self _⟩
 cases hm
 rw [hq]at hi29
 obtain⟨rfl,ht⟩:=hi29
 replace hp:=(hp.out (l':= []) rfl).out rfl
 have hm:=hk27
 try rw [←hx33,ht]at hm
 clear hq
 cases hm
 exact .inr (congrArg some (hp.done rfl))
def m_depot_Open_L1:((List (Tplace×ByteArray))×(List (Int×Int)))→TCard→Option (Sum ((List (Tplace×ByteArray))×(List (Int×Int))) Unit):=fun(v9,v10) y3=>
 if(!((mget v9 (⟨y3.No,y3.Part,y3.Parts⟩:Tplace)).isSome))=true then
  if(!((mget v10 y3.No).isSome))=true then
   if(y3.Part==0)=true then
    some (.inl ((mput v9 (⟨y3.No,y3.Part,y3.Parts⟩:Tplace) y3.Text),(mput v10 y3.No y3.Parts)))
   else
    some (.inl ((mput v9 (⟨y3.No,y3.Part,y3.Parts⟩:Tplace) y3.Text),v10))
  else
   some (.inl ((mput v9 (⟨y3.No,y3.Part,y3.Parts⟩:Tplace) y3.Text),v10))
 else
  if(!((mget v10 y3.No).isSome))=true then
   if(y3.Part==0)=true then
    some (.inl (v9,(mput v10 y3.No y3.Parts)))
   else
    some (.inl (v9,v10))
  else
   some (.inl (v9,v10))
def m_depot_Open_L5 (v22:(List (Tplace×ByteArray))) (v23:(List (Int×Int))) (k45:Int):(ByteArray×Bool×Int)→Option (Sum (ByteArray×Bool×Int) (ByteArray×Bool×Int)):=fun(text68,fine69,v70)=>
 if(decide (v70<((mget v23 k45).getD 0)))=true then
  gd (((text68.size+((mget v22 (⟨k45,v70,((mget v23 k45).getD 0)⟩:Tplace)).getD (⟨#[]⟩:ByteArray)).size:Nat):Int)≤9223372036854775807)<|
  if fine69=true then
   some (.inl ((text68++((mget v22 (⟨k45,v70,((mget v23 k45).getD 0)⟩:Tplace)).getD (⟨#[]⟩:ByteArray))),(mget v22 (⟨k45,v70,((mget v23 k45).getD 0)⟩:Tplace)).isSome,(W (v70+1))))
  else
   some (.inl ((text68++((mget v22 (⟨k45,v70,((mget v23 k45).getD 0)⟩:Tplace)).getD (⟨#[]⟩:ByteArray))),false,(W (v70+1))))
 else
  some (.inr (text68,fine69,v70))
def m_depot_Open_L4 (v22:(List (Tplace×ByteArray))) (v23:(List (Int×Int))):((List TRecord)×Int)→Option (Sum ((List TRecord)×Int) ((List TRecord)×Int)):=fun(out44,k45)=>
 Option.bind (loopF (m_depot_Open_L5 v22 v23 k45) ((⟨#[]⟩:ByteArray),(decide (((mget v23 k45).getD 0)>0)),0)) fun(text75,fine76,v77)=>
 if(!fine76)=true then
  some (.inr (out44,k45))
 else
  Option.bind (m_depot_decode text75) fun⟨x79,x80⟩=>
  if(!x80)=true then
   some (.inr (out44,k45))
  else
   Option.bind (m_depot_next out44 x79) fun x83=>
   if(!x83)=true then
    some (.inr (out44,k45))
   else
    gd ((out44.length+([x79]:List TRecord).length)*72≤140737488355328∧out44.length+([x79]:List TRecord).length≤9223372036854775807)<|
    some (.inl ((out44++([x79]:List TRecord)),(W (k45+1))))
def m_depot_Open (b_:TBox):Option (TBox×(List TRecord)):=
 Option.bind (m_depot_whole b_) fun x1=>
 Option.bind (it_depot_whole_1 x1) fun l21=>
 Option.bind (rangeF m_depot_Open_L1 l21.1 (([]:List (Tplace×ByteArray)),([]:List (Int×Int)))) fun e=>
 match e with
 | .inl (v22,v23)=>
  Option.bind (loopF (m_depot_Open_L4 v22 v23) ([],0)) fun(out100,k101)=>
  Option.bind (m_depot_of out100) fun x102=>
  some ((⟨x102, []⟩:TBox),out100)
 | .inr _=>none
theorem d_depot_Open (b_:TBox) (r:(TBox×(List TRecord))) (hm:m_depot_Open b_=some r):Does Tryz.prog 15 [.agg (TBox.c b_)] (fun x=>x= .tup [.agg (TBox.c r.1),lD 8 r.2 TRecord.c]):=by
 refine does_zr (X:=⟨Tryz.prog,tt,Tryz.f15.ntmps,pl15, [], [], [], [], []⟩) pok _ Tryz.func15 rfl rfl (Nat.le_of_ble_eq_true rfl) ?_
 intro ds
 intro ds
 refine⟨m_mapty114,⟨rfl,d_mapty114⟩, ?_⟩
 intro ds
 refine⟨m_mapty115,⟨rfl,d_mapty115⟩, ?_⟩
 intro ds
 obtain⟨x1,hx2,hm⟩:=bd_some hm
 refine CallY.det (d_depot_whole b_ _ hx2) ?_
 obtain⟨l21,hl155,hm⟩:=bd_some hm
 obtain⟨ev154,he,hm⟩:=bd_some hm
 refine RangeY.ofZ (E:=Unit) en_depot_whole_1 l21.1 m_depot_Open_L1 (fun(lpx:((List (Tplace×ByteArray))×(List (Int×Int))))=>match lpx with|(v9,v10)=>(⟨[(0, .agg [lD 5 b_.Thread TCard.c,lD 5 b_.Loose TCard.c]),(1, .own 0 0),(2, .own 1 0),(3, .v (.slice none 0 0)),(4, .own 3 0),(5, .own 5 0)], [(0, .blk [lD 5 b_.Thread TCard.c,lD 5 b_.Loose TCard.c] 24),(1, .blk [.v (.slice none 0 0), .v (.slice none 0 0)] 24),(2,m_mapty114_e v9),(3, .blk [.row 2 0] 114),(4,m_mapty115_e v10),(5, .blk [.row 4 0] 115)],6⟩:Sy)) (fun(_:Unit)=>(⟨[], [],0⟩:Sy)) (fun _=> .ret) (([]:List (Tplace×ByteArray)),([]:List (Int×Int))) ev154 [0,1,2,3,4,5] (i_depot_whole_1 x1 l21.1 hl155) he (enters_f pok Tryz.func128 rfl) rfl rfl (fun _=>rfl) rfl rfl rfl (by rintro⟨v9,v10⟩;rfl) (by intro _;rfl) (SubY.of 6 rfl ⟨tR rfl,tR rfl,tR rfl,tR rfl,tR rfl,tR rfl,trivial⟩ ⟨hR rfl,hR rfl,⟨_,rfl,rfl⟩,hR rfl,⟨_,rfl,rfl⟩,hR rfl,trivial⟩) ?_ ?_ (fun _=> .inl rfl) ?_
 rintro⟨v22,v23⟩ rfl
 intro ds
 intro ds
 intro ds
 obtain⟨ev104,he,hk105⟩:=bd_some hm
 refine LoopY.ofL (m_depot_Open_L4 v22 v23) (fun(out44,k45)=>⟨[(2, .own 1 0),(4, .own 3 0),(5, .own 5 0),(12, .row 6 8),(13,DI k45)], [(1, .blk [.v (.slice none 0 0), .v (.slice none 0 0)] 24),(2,m_mapty114_e v22),(3, .blk [.row 2 0] 114),(4,m_mapty115_e v23),(5, .blk [.row 4 0] 115),(6,rE 8 out44 TRecord.c 38)],7⟩) ([],0) (SubY.of 6 rfl ⟨tR rfl,tR rfl,tR rfl,tR rfl,tR rfl,trivial⟩ ⟨hR rfl,⟨_,rfl,rfl⟩,hR rfl,⟨_,rfl,rfl⟩,hR rfl,⟨rfl,rfl⟩,trivial⟩) he ?_
 rintro fu106 ⟨out44,k45⟩ b hm hi107
 refine⟨rfl, ?_⟩
 refine⟨⟨d_mapty115,rfl⟩,m_mapty115_k k45,_,_,⟨rfl,⟨rfl,trivial⟩,lkp_getD (ev:=m_mapty115_v) (z':=0) d_mapty115_k rfl,lkp_some d_mapty115_k,rfl⟩, ?_⟩
 refine⟨⟨d_mapty115,rfl⟩,m_mapty115_k k45,_,_,⟨rfl,⟨rfl,trivial⟩,lkp_getD (ev:=m_mapty115_v) (z':=0) d_mapty115_k rfl,lkp_some d_mapty115_k,rfl⟩, ?_⟩
 obtain⟨ev134,he,hk135⟩:=bd_some hm
 refine LoopY.ofL (m_depot_Open_L5 v22 v23 k45) (fun(text110,fine111,v112)=>⟨[(2, .own 1 0),(4, .own 3 0),(5, .own 5 0),(12, .row 6 8),(13,DI k45),(14, .v (.string text110)),(15,DB fine111),(72,DI ((mget v23 k45).getD 0)),(73,DI v112)], [(1, .blk [.v (.slice none 0 0), .v (.slice none 0 0)] 24),(2,m_mapty114_e v22),(3, .blk [.row 2 0] 114),(4,m_mapty115_e v23),(5, .blk [.row 4 0] 115),(6,rE 8 out44 TRecord.c 38)],7⟩) ((⟨#[]⟩:ByteArray),(decide (((mget v23 k45).getD 0)>0)),0) (SubY.of 7 rfl ⟨tR rfl,tR rfl,tR rfl,tR rfl,tR rfl,tR rfl,tR rfl,tR rfl,tR rfl,trivial⟩ ⟨hR rfl,⟨_,rfl,rfl⟩,hR rfl,⟨_,rfl,rfl⟩,hR rfl,hW rfl,trivial⟩) he ?_
 rintro fu136 ⟨text110,fine111,v112⟩ b hm hi137
 revert hm
 refine VIf.b (fun h138 hm=> ?_) (fun h138 hm=> ?_)
 refine⟨⟨d_mapty115,rfl⟩,m_mapty115_k k45,_,_,⟨rfl,⟨rfl,trivial⟩,lkp_getD (ev:=m_mapty115_v) (z':=0) d_mapty115_k rfl,lkp_some d_mapty115_k,rfl⟩, ?_⟩
 refine⟨⟨d_mapty114,rfl⟩,m_mapty114_k (⟨k45,v112,((mget v23 k45).getD 0)⟩:Tplace),_,_,⟨rfl,⟨rfl,rfl,rfl,trivial⟩,lkp_getD (ev:=m_mapty114_v) (z':=(⟨#[]⟩:ByteArray)) d_mapty114_k rfl,lkp_some d_mapty114_k,rfl⟩, ?_⟩
 obtain⟨hg,hm⟩:=gd_some hm
 refine⟨hg, ?_⟩
 revert hm
 refine VIf.b (fun h139 hm=> ?_) (fun h139 hm=> ?_)
 cases hm
 exact⟨(_,((text110++((mget v22 (⟨k45,v112,((mget v23 k45).getD 0)⟩:Tplace)).getD (⟨#[]⟩:ByteArray))),(mget v22 (⟨k45,v112,((mget v23 k45).getD 0)⟩:Tplace)).isSome,(W (v112+1)))),SubY.of 7 rfl ⟨tR rfl,tR rfl,tR rfl,tR rfl,tR rfl,tR rfl,tR rfl,tR rfl,tR rfl,trivial⟩ ⟨hR rfl,⟨_,rfl,rfl⟩,hR rfl,⟨_,rfl,rfl⟩,hR rfl,hW rfl,trivial⟩,hi137,Nat.lt_succ_self _⟩
 cases hm
 exact⟨(_,((text110++((mget v22 (⟨k45,v112,((mget v23 k45).getD 0)⟩:Tplace)).getD (⟨#[]⟩:ByteArray))),false,(W (v112+1)))),SubY.of 7 rfl ⟨tR rfl,tR rfl,tR rfl,tR rfl,tR rfl,tR rfl,tR rfl,tR rfl,tR rfl,trivial⟩ ⟨hR rfl,⟨_,rfl,rfl⟩,hR rfl,⟨_,rfl,rfl⟩,hR rfl,hW rfl,trivial⟩,hi137,Nat.lt_succ_self _⟩
 cases hm
 cases hi137
 have hm:=hk135
 revert hm
 refine VIf.b (fun h140 hm=> ?_) (fun h140 hm=> ?_)
 cases hm
 cases hi107
 have hm:=hk105
 intro ds
 obtain⟨x141,hx142,hm⟩:=bd_some hm
 refine CallOwn.det (d_depot_of out44 _ hx142) ?_
 intro ds
 cases hm
 exact RetY.le (le1)
 obtain⟨⟨x143,x144⟩,hx145,hm⟩:=bd_some hm
 refine CallY.det (d_depot_decode text110 _ hx145) ?_
 revert hm
 refine VIf.b (fun h146 hm=> ?_) (fun h146 hm=> ?_)
 cases hm
 cases hi107
 have hm:=hk105
 intro ds
 obtain⟨x147,hx148,hm⟩:=bd_some hm
 refine CallOwn.det (d_depot_of out44 _ hx148) ?_
 intro ds
 cases hm
 exact RetY.le (le1)
 obtain⟨x149,hx150,hm⟩:=bd_some hm
 refine CallOwn.det (d_depot_next out44 x143 _ hx150) ?_
 revert hm
 refine VIf.b (fun h151 hm=> ?_) (fun h151 hm=> ?_)
 cases hm
 cases hi107
 have hm:=hk105
 intro ds
 obtain⟨x152,hx153,hm⟩:=bd_some hm
 refine CallOwn.det (d_depot_of out44 _ hx153) ?_
 intro ds
 cases hm
 exact RetY.le (le1)
 refine⟨([x143]:List TRecord).flatMap TRecord.c,([x143]:List TRecord).length,⟨rfl,rfl⟩, ?_⟩
 obtain⟨hg,hm⟩:=gd_some hm
 refine⟨hg,_,_,flat_app (c:=TRecord.c) (l:=(out44:List TRecord)) (r:=(([x143]:List TRecord):List TRecord)), ?_⟩
 cases hm
 exact⟨(_,((out44++([x143]:List TRecord)),(W (k45+1)))),SubY.of 7 rfl ⟨tR rfl,tR rfl,tR rfl,tR rfl,tR rfl,trivial⟩ ⟨hR rfl,⟨_,rfl,rfl⟩,hR rfl,⟨_,rfl,rfl⟩,hR rfl,hW rfl,trivial⟩,hi107,Nat.lt_succ_self _⟩
 rintro _ rfl
 cases hm
 clear he hm
 rintro⟨v9,v10⟩ y3 b hm
 refine⟨⟨d_mapty114,rfl⟩,m_mapty114_k (⟨y3.No,y3.Part,y3.Parts⟩:Tplace),_,_,⟨rfl,⟨rfl,rfl,rfl,trivial⟩,lkp_getD (ev:=m_mapty114_v) (z':=(⟨#[]⟩:ByteArray)) d_mapty114_k rfl,lkp_some d_mapty114_k,rfl⟩, ?_⟩
 revert hm
 refine VIf.b (fun h156 hm=> ?_) (fun h156 hm=> ?_)
 refine⟨⟨d_mapty114,rfl,rfl⟩,m_mapty114_k (⟨y3.No,y3.Part,y3.Parts⟩:Tplace),_,⟨rfl,⟨rfl,rfl,rfl,trivial⟩,upd_mp (ev:=m_mapty114_v) (v:=y3.Text) d_mapty114_k⟩, ?_⟩
 refine⟨⟨d_mapty115,rfl⟩,m_mapty115_k y3.No,_,_,⟨rfl,⟨rfl,trivial⟩,lkp_getD (ev:=m_mapty115_v) (z':=0) d_mapty115_k rfl,lkp_some d_mapty115_k,rfl⟩, ?_⟩
 revert hm
 refine VIf.b (fun h157 hm=> ?_) (fun h157 hm=> ?_)
 revert hm
 refine VIf.b (fun h158 hm=> ?_) (fun h158 hm=> ?_)
 refine⟨⟨d_mapty115,rfl,rfl⟩,m_mapty115_k y3.No,_,⟨rfl,⟨rfl,trivial⟩,upd_mp (ev:=m_mapty115_v) (v:=y3.Parts) d_mapty115_k⟩, ?_⟩
 cases hm
 exact⟨((mput v9 (⟨y3.No,y3.Part,y3.Parts⟩:Tplace) y3.Text),(mput v10 y3.No y3.Parts)),rfl,SubY.of 6 rfl ⟨tR rfl,tR rfl,tR rfl,tR rfl,tR rfl,tR rfl,trivial⟩ ⟨hR rfl,hR rfl,⟨_,rfl,rfl⟩,hR rfl,⟨_,rfl,rfl⟩,hR rfl,trivial⟩⟩
 cases hm
 exact⟨((mput v9 (⟨y3.No,y3.Part,y3.Parts⟩:Tplace) y3.Text),v10),rfl,SubY.of 6 rfl ⟨tR rfl,tR rfl,tR rfl,tR rfl,tR rfl,tR rfl,trivial⟩ ⟨hR rfl,hR rfl,⟨_,rfl,rfl⟩,hR rfl,⟨_,rfl,rfl⟩,hR rfl,trivial⟩⟩
 cases hm
 exact⟨((mput v9 (⟨y3.No,y3.Part,y3.Parts⟩:Tplace) y3.Text),v10),rfl,SubY.of 6 rfl ⟨tR rfl,tR rfl,tR rfl,tR rfl,tR rfl,tR rfl,trivial⟩ ⟨hR rfl,hR rfl,⟨_,rfl,rfl⟩,hR rfl,⟨_,rfl,rfl⟩,hR rfl,trivial⟩⟩
 refine⟨⟨d_mapty115,rfl⟩,m_mapty115_k y3.No,_,_,⟨rfl,⟨rfl,trivial⟩,lkp_getD (ev:=m_mapty115_v) (z':=0) d_mapty115_k rfl,lkp_some d_mapty115_k,rfl⟩, ?_⟩
 revert hm
 refine VIf.b (fun h159 hm=> ?_) (fun h159 hm=> ?_)
 revert hm
 refine VIf.b (fun h160 hm=> ?_) (fun h160 hm=> ?_)
 refine⟨⟨d_mapty115,rfl,rfl⟩,m_mapty115_k y3.No,_,⟨rfl,⟨rfl,trivial⟩,upd_mp (ev:=m_mapty115_v) (v:=y3.Parts) d_mapty115_k⟩, ?_⟩
 cases hm
 exact⟨(v9,(mput v10 y3.No y3.Parts)),rfl,SubY.of 6 rfl ⟨tR rfl,tR rfl,tR rfl,tR rfl,tR rfl,tR rfl,trivial⟩ ⟨hR rfl,hR rfl,⟨_,rfl,rfl⟩,hR rfl,⟨_,rfl,rfl⟩,hR rfl,trivial⟩⟩
 cases hm
 exact⟨(v9,v10),rfl,SubY.of 6 rfl ⟨tR rfl,tR rfl,tR rfl,tR rfl,tR rfl,tR rfl,trivial⟩ ⟨hR rfl,hR rfl,⟨_,rfl,rfl⟩,hR rfl,⟨_,rfl,rfl⟩,hR rfl,trivial⟩⟩
 cases hm
 exact⟨(v9,v10),rfl,SubY.of 6 rfl ⟨tR rfl,tR rfl,tR rfl,tR rfl,tR rfl,tR rfl,trivial⟩ ⟨hR rfl,hR rfl,⟨_,rfl,rfl⟩,hR rfl,⟨_,rfl,rfl⟩,hR rfl,trivial⟩⟩
def m_depot_Bind (b_:TBox):Option TBox:=
 Option.bind (m_depot_all b_) fun x1=>
 some (⟨x1, []⟩:TBox)
theorem d_depot_Bind (b_:TBox) (r:TBox) (hm:m_depot_Bind b_=some r):Does Tryz.prog 19 [.agg (TBox.c b_)] (fun x=>x= .agg (TBox.c r)):=by
 refine does_zy (X:=⟨Tryz.prog,tt,Tryz.f19.ntmps, [], [], [], [], [], []⟩) pok _ Tryz.func19 rfl rfl (Nat.le_of_ble_eq_true rfl) ?_
 obtain⟨x1,hx2,hm⟩:=bd_some hm
 refine CallY.det (d_depot_all b_ _ hx2) ?_
 cases hm
 exact RetY.le (le2)
def m_slices_Clone_api_Card_api_Card (s:List TCard):Option (List TCard):=gd (s.length*48≤140737488355328∧s.length≤9223372036854775807) (some s)
theorem d_slices_Clone_api_Card_api_Card (s:List TCard) (r:List TCard) (hm:m_slices_Clone_api_Card_api_Card s=some r):Does Tryz.prog 78 [.lst 5 s.length (s.flatMap TCard.c)] (fun x=>x= .lst 5 r.length (r.flatMap TCard.c)):=by
 obtain⟨hg,hm⟩:=gd_some hm
 cases hm
 refine does_zy (X:=⟨Tryz.prog,tt,Tryz.f78.ntmps, [], [], [], [], [], []⟩) pok _ Tryz.func78 rfl rfl (Nat.le_of_ble_eq_true rfl) ?_
 intro b hb
 refine VIf.mk (fun h=> ?_) (fun h=> ?_)
 · have h0:=hb h
   have h1:s= []:=List.eq_nil_of_length_eq_zero h0
   subst h1
   exact RetY.le leD.nil
 · refine⟨[],0,⟨rfl,rfl⟩, ?_⟩
   exact⟨by omega,s.flatMap TCard.c,s.length,⟨rfl,Nat.zero_add _⟩,RetY.le (leD.refl _)⟩
theorem u_slices_Clone_api_Card_api_Card (s:List TCard) (r:List TCard) (hm:m_slices_Clone_api_Card_api_Card s=some r):DoesU Tryz.prog 78 [.lst 5 s.length (s.flatMap TCard.c)] 5 r.length (r.flatMap TCard.c) 53:=by
 obtain⟨hg,hm⟩:=gd_some hm
 cases hm
 refine does_zu (X:=⟨Tryz.prog,tt,Tryz.f78.ntmps, [], [], [], [], [], []⟩) pok _ Tryz.func78 rfl rfl (Nat.le_of_ble_eq_true rfl) ?_
 intro b hb
 refine VIf.mk (fun h=> ?_) (fun h=> ?_)
 · have h0:=hb h
   have h1:s= []:=List.eq_nil_of_length_eq_zero h0
   subst h1
   exact⟨rfl,rfl⟩
 · refine⟨[],0,⟨rfl,rfl⟩, ?_⟩
   exact⟨by omega,s.flatMap TCard.c,s.length,⟨rfl,Nat.zero_add _⟩,⟨rfl,rfl⟩⟩
def m_depot_pick (picks:(List Int)) (i:Int) (n:Int):Option Int:=
 if((picks.length:Int)==0)=true then
  some 0
 else
  gd ((picks.length:Int)≠0)<|
  Option.bind (idx picks (i.tmod (picks.length:Int))) fun e2=>
  gd (n≠0)<|
  gd (n≠0)<|
  some ((W ((e2.tmod n)+n)).tmod n)
theorem d_depot_pick (picks:(List Int)) (i:Int) (n:Int) (r:Int) (hm:m_depot_pick picks i n=some r):Does Tryz.prog 79 [lD 1 picks cI,DI i,DI n] (fun x=>x=DI r):=by
 refine does_zy (X:=⟨Tryz.prog,tt,Tryz.f79.ntmps, [], [], [], [], [], []⟩) pok _ Tryz.func79 rfl rfl (Nat.le_of_ble_eq_true rfl) ?_
 revert hm
 refine VIf.b (fun h1 hm=> ?_) (fun h1 hm=> ?_)
 cases hm
 exact RetY.le (leD.refl _)
 obtain⟨hg,hm⟩:=gd_some hm
 refine⟨hg, ?_⟩
 obtain⟨e2,hx3,hm⟩:=bd_some hm
 refine⟨_,el_idx (fun _=>rfl) hx3, ?_⟩
 obtain⟨hg,hm⟩:=gd_some hm
 refine⟨hg, ?_⟩
 obtain⟨hg,hm⟩:=gd_some hm
 refine⟨hg, ?_⟩
 cases hm
 exact RetY.le (leD.refl _)
def m_slices_Insert_api_Card_api_Card (s:(List TCard)) (i:Int) (v:(List TCard)):Option (List TCard):=
 gd (0≤i∧i.toNat≤s.length)<|
 if((v.length:Int)==0)=true then
  some s
 else
  if(i==(s.length:Int))=true then
   gd ((s.length+v.length)*48≤140737488355328∧s.length+v.length≤9223372036854775807)<|
   some (s++v)
  else
   gd (0≤i∧i.toNat<s.length∧0<v.length∧(s.length+v.length)*48≤140737488355328∧s.length+v.length≤9223372036854775807) (some (s.take i.toNat++v++s.drop i.toNat))
theorem d_slices_Insert_api_Card_api_Card (s:(List TCard)) (i:Int) (v:(List TCard)) (r:(List TCard)) (hm:m_slices_Insert_api_Card_api_Card s i v=some r):DoesL Tryz.prog 80 5 s.length (s.flatMap TCard.c) 53 [DI i,lD 5 v TCard.c] 5 r.length (r.flatMap TCard.c):=by
 obtain⟨hg0,hm⟩:=gd_some hm
 refine does_zins (X:=⟨Tryz.prog,tt,Tryz.f80.ntmps, [], [], [], [], [], []⟩) (t:=22) (tI:=3) (tB:=4) (ov:=132) (ty:=53) (args:= [lD 5 v TCard.c]) pok Tryz.func80 rfl rfl .mk .mk (Nat.le_of_ble_eq_true rfl) hg0 rfl rfl rfl rfl rfl rfl (by kernel_rfl) ⟨⟨_,4,Tryz.func132,by kernel_rfl,by kernel_rfl,by kernel_rfl,by kernel_rfl⟩⟩ (by decide) ?_
 revert hm
 refine VIf.b (fun h1 hm=> ?_) (fun h1 hm=> ?_)
 cases hm
 exact⟨rfl,rfl⟩
 revert hm
 refine VIf.b (fun h2 hm=> ?_) (fun h2 hm=> ?_)
 obtain⟨hg,hm⟩:=gd_some hm
 refine⟨hg,_,_,flat_app (c:=TCard.c) (l:=(s:List TCard)) (r:=(v:List TCard)), ?_⟩
 cases hm
 exact⟨rfl,rfl⟩
 obtain⟨hg,hm⟩:=gd_some hm
 cases hm
 exact ins_k (fun _=>rfl) hg
def m_strings_Clone (s:ByteArray):Option ByteArray:=
 Option.bind (m_internal_stringslite_Clone s) fun x1=>
 some x1
theorem d_strings_Clone (s:ByteArray) (r:ByteArray) (hm:m_strings_Clone s=some r):Does Tryz.prog 81 [.v (.string s)] (fun x=>x= .v (.string r)):=by
 refine does_zy (X:=⟨Tryz.prog,tt,Tryz.f81.ntmps, [], [], [], [], [], []⟩) pok _ Tryz.func81 rfl rfl (Nat.le_of_ble_eq_true rfl) ?_
 obtain⟨x1,hx2,hm⟩:=bd_some hm
 refine CallY.det (d_internal_stringslite_Clone s _ hx2) ?_
 cases hm
 exact RetY.le (leD.refl _)
def m_depot_Fall_L1 (b_:TBox) (picks:(List Int)):(Int×(List TCard)×(List TCard)×(List TCard)×(List TCard))→Option (Sum (Int×(List TCard)×(List TCard)×(List TCard)×(List TCard)) (Int×(List TCard)×(List TCard)×(List TCard)×(List TCard))):=fun(v18,v19,v20,v21,v22)=>
 if(decide (v18<(b_.Loose.length:Int)))=true then
  Option.bind (idx b_.Loose v18) fun e39=>
  Option.bind (m_depot_pick picks (W (2*v18)) 4) fun x41=>
  if(x41==0)=true then
   some (.inl ((W (v18+1)),v19,v20,v21,v22))
  else
   if(x41==3)=true then
    Option.bind (m_slices_Insert_api_Card_api_Card v22 0 ([e39]:List TCard)) fun x45=>
    some (.inl ((W (v18+1)),v19,v20,v21,x45))
   else
    if(x41==1)=true then
     if(decide ((e39.Text.size:Int)>0))=true then
      Option.bind (m_depot_pick picks (W ((W (2*v18))+1)) (e39.Text.size:Int)) fun x49=>
      gd ((0≤x49∧x49≤(e39.Text.size:Int)))<|
      Option.bind (m_strings_Clone (e39.Text.extract 0 ((x49).toNat))) fun x51=>
      gd ((v22.length+([(⟨e39.No,e39.Part,e39.Parts,e39.Size,x51⟩:TCard)]:List TCard).length)*48≤140737488355328∧v22.length+([(⟨e39.No,e39.Part,e39.Parts,e39.Size,x51⟩:TCard)]:List TCard).length≤9223372036854775807)<|
      some (.inl ((W (v18+1)),v19,v20,v21,(v22++([(⟨e39.No,e39.Part,e39.Parts,e39.Size,x51⟩:TCard)]:List TCard))))
     else
      gd ((v22.length+([e39]:List TCard).length)*48≤140737488355328∧v22.length+([e39]:List TCard).length≤9223372036854775807)<|
      some (.inl ((W (v18+1)),v19,v20,v21,(v22++([e39]:List TCard))))
    else
     gd ((v22.length+([e39]:List TCard).length)*48≤140737488355328∧v22.length+([e39]:List TCard).length≤9223372036854775807)<|
     some (.inl ((W (v18+1)),v19,v20,v21,(v22++([e39]:List TCard))))
 else
  some (.inr (v18,v19,v20,v21,v22))
def m_depot_Fall (b_:TBox) (picks:(List Int)):Option TBox:=
 Option.bind (m_slices_Clone_api_Card_api_Card b_.Thread) fun x1=>
 Option.bind (loopF (m_depot_Fall_L1 b_ picks) (0, [], [], [], [])) fun(v53,v54,v55,v56,v57)=>
 some (⟨x1,v57⟩:TBox)
theorem d_depot_Fall (b_:TBox) (picks:(List Int)) (r:TBox) (hm:m_depot_Fall b_ picks=some r):Does Tryz.prog 21 [.agg (TBox.c b_),lD 1 picks cI] (fun x=>x= .agg (TBox.c r)):=by
 refine does_zy (X:=⟨Tryz.prog,tt,Tryz.f21.ntmps,pl21, [80,112,155,175], [78], [], [], []⟩) pok _ Tryz.func21 rfl rfl (Nat.le_of_ble_eq_true rfl) ?_
 obtain⟨x1,hx2,hm⟩:=bd_some hm
 refine .inl (CallU.mk ⟨_,_,_,_,u_slices_Clone_api_Card_api_Card b_.Thread _ hx2, ?_⟩)
 obtain⟨ev58,he,hk59⟩:=bd_some hm
 refine LoopY.ofL (m_depot_Fall_L1 b_ picks) (fun(v18,v19,v20,v21,v22)=>⟨[(1,lD 1 picks cI),(4, .own 1 0),(5, .own 3 0),(14,lD 5 b_.Loose TCard.c),(15,DI (b_.Loose.length:Int)),(16,DI v18)], [(1, .blk [.v (.slice none 0 0), .v (.slice none 0 0)] 24),(2,rE 5 x1 TCard.c 53),(3, .blk [.row 2 5, .row 7 5] 24),(4,rE 5 v19 TCard.c 53),(5,rE 5 v20 TCard.c 53),(6,rE 5 v21 TCard.c 53),(7,rE 5 v22 TCard.c 53)],8⟩) (0, [], [], [], []) (SubY.of 4 rfl ⟨tR rfl,tR rfl,tR rfl,tR rfl,tR rfl,tR rfl,trivial⟩ ⟨hR rfl,hW rfl,hR rfl,⟨rfl,rfl⟩,⟨rfl,rfl⟩,⟨rfl,rfl⟩,⟨rfl,rfl⟩,trivial⟩) he ?_
 rintro fu60 ⟨v18,v19,v20,v21,v22⟩ b hm hi61
 revert hm
 refine VIf.b (fun h62 hm=> ?_) (fun h62 hm=> ?_)
 obtain⟨e63,hx64,hm⟩:=bd_some hm
 refine⟨_,el_idx (fun _=>rfl) hx64, ?_⟩
 obtain⟨x65,hx66,hm⟩:=bd_some hm
 refine CallY.det (d_depot_pick picks (W (2*v18)) 4 _ hx66) ?_
 revert hm
 refine VIf.b (fun h67 hm=> ?_) (fun h67 hm=> ?_)
 cases hm
 exact⟨(_,((W (v18+1)),v19,v20,v21,v22)),SubY.of 8 rfl ⟨tR rfl,tR rfl,tR rfl,tR rfl,tR rfl,tR rfl,trivial⟩ ⟨hR rfl,hW rfl,hR rfl,hW rfl,hW rfl,hW rfl,hW rfl,trivial⟩,hi61,Nat.lt_succ_self _⟩
 revert hm
 refine VIf.b (fun h68 hm=> ?_) (fun h68 hm=> ?_)
 refine⟨([e63]:List TCard).flatMap TCard.c,([e63]:List TCard).length,⟨rfl,rfl⟩, ?_⟩
 obtain⟨x69,hx70,hm⟩:=bd_some hm
 refine .inl (CallL.mk ⟨_,_,_,_,_,_,_,rfl,d_slices_Insert_api_Card_api_Card v22 0 (([e63]:List TCard)) _ hx70, ?_⟩)
 cases hm
 exact⟨(_,((W (v18+1)),v19,v20,v21,x69)),SubY.of 8 rfl ⟨tR rfl,tR rfl,tR rfl,tR rfl,tR rfl,tR rfl,trivial⟩ ⟨hR rfl,hW rfl,hR rfl,hW rfl,hW rfl,hW rfl,hW rfl,trivial⟩,hi61,Nat.lt_succ_self _⟩
 revert hm
 refine VIf.b (fun h71 hm=> ?_) (fun h71 hm=> ?_)
 revert hm
 refine VIf.b (fun h72 hm=> ?_) (fun h72 hm=> ?_)
 refine⟨rfl, ?_⟩
 obtain⟨x73,hx74,hm⟩:=bd_some hm
 refine CallY.det (d_depot_pick picks (W ((W (2*v18))+1)) ((e63.Text.size:Int)) _ hx74) ?_
 obtain⟨hg,hm⟩:=gd_some hm
 refine⟨hg, ?_⟩
 obtain⟨x75,hx76,hm⟩:=bd_some hm
 refine CallY.det (d_strings_Clone (e63.Text.extract 0 ((x73).toNat)) _ hx76) ?_
 refine⟨([(⟨e63.No,e63.Part,e63.Parts,e63.Size,x75⟩:TCard)]:List TCard).flatMap TCard.c,([(⟨e63.No,e63.Part,e63.Parts,e63.Size,x75⟩:TCard)]:List TCard).length,⟨rfl,rfl⟩, ?_⟩
 obtain⟨hg,hm⟩:=gd_some hm
 refine⟨hg,_,_,flat_app (c:=TCard.c) (l:=(v22:List TCard)) (r:=(([(⟨e63.No,e63.Part,e63.Parts,e63.Size,x75⟩:TCard)]:List TCard):List TCard)), ?_⟩
 cases hm
 exact⟨(_,((W (v18+1)),v19,v20,v21,(v22++([(⟨e63.No,e63.Part,e63.Parts,e63.Size,x75⟩:TCard)]:List TCard)))),SubY.of 8 rfl ⟨tR rfl,tR rfl,tR rfl,tR rfl,tR rfl,tR rfl,trivial⟩ ⟨hR rfl,hW rfl,hR rfl,hW rfl,hW rfl,hW rfl,hW rfl,trivial⟩,hi61,Nat.lt_succ_self _⟩
 refine⟨([e63]:List TCard).flatMap TCard.c,([e63]:List TCard).length,⟨rfl,rfl⟩, ?_⟩
 obtain⟨hg,hm⟩:=gd_some hm
 refine⟨hg,_,_,flat_app (c:=TCard.c) (l:=(v22:List TCard)) (r:=(([e63]:List TCard):List TCard)), ?_⟩
 cases hm
 exact⟨(_,((W (v18+1)),v19,v20,v21,(v22++([e63]:List TCard)))),SubY.of 8 rfl ⟨tR rfl,tR rfl,tR rfl,tR rfl,tR rfl,tR rfl,trivial⟩ ⟨hR rfl,hW rfl,hR rfl,hW rfl,hW rfl,hW rfl,hW rfl,trivial⟩,hi61,Nat.lt_succ_self _⟩
 refine⟨([e63]:List TCard).flatMap TCard.c,([e63]:List TCard).length,⟨rfl,rfl⟩, ?_⟩
 obtain⟨hg,hm⟩:=gd_some hm
 refine⟨hg,_,_,flat_app (c:=TCard.c) (l:=(v22:List TCard)) (r:=(([e63]:List TCard):List TCard)), ?_⟩
 cases hm
 exact⟨(_,((W (v18+1)),v19,v20,v21,(v22++([e63]:List TCard)))),SubY.of 8 rfl ⟨tR rfl,tR rfl,tR rfl,tR rfl,tR rfl,tR rfl,trivial⟩ ⟨hR rfl,hW rfl,hR rfl,hW rfl,hW rfl,hW rfl,hW rfl,trivial⟩,hi61,Nat.lt_succ_self _⟩
 cases hm
 cases hi61
 have hm:=hk59
 cases hm
 exact RetY.le (leD.refl _)
def m_depot_areWritten_L1 (l:(List TRecord)):Int→Option (Sum Int (Sum Int Bool)):=fun v11=>
 if(decide (v11<(l.length:Int)))=true then
  Option.bind (idx l v11) fun e23=>
  Option.bind (m_depot_isRecord e23) fun x25=>
  if(!x25)=true then
   some (.inr (.inr false))
  else
   gd ((0≤v11∧v11≤(l.length:Int)))<|
   Option.bind (some (sub l 0 (v11).toNat)) fun sl28=>
   Option.bind (m_depot_next sl28 e23) fun x29=>
   if(!x29)=true then
    some (.inr (.inr false))
   else
    some (.inl (W (v11+1)))
 else
  some (.inr (.inl v11))
def m_depot_areWritten (l:(List TRecord)):Option Bool:=
 Option.bind (loopF (m_depot_areWritten_L1 l) 0) fun e=>
 match e with
 | .inl v32=>
  some true
 | .inr rr33=>
  some rr33
theorem d_depot_areWritten (l:(List TRecord)) (r:Bool) (hm:m_depot_areWritten l=some r):Does Tryz.prog 107 [lD 8 l TRecord.c] (fun x=>x=DB r):=by
 refine does_zy (X:=⟨Tryz.prog,tt,Tryz.f107.ntmps,pl107, [], [], [], [], []⟩) pok _ Tryz.func107 rfl rfl (Nat.le_of_ble_eq_true rfl) ?_
 obtain⟨ev34,he,hk35⟩:=bd_some hm
 refine LoopY.ofL (m_depot_areWritten_L1 l) (fun v11=>⟨[(0,lD 8 l TRecord.c),(5,lD 8 l TRecord.c),(6,DI (l.length:Int)),(7,DI v11)], [],0⟩) 0 (SubY.of 0 rfl ⟨tR rfl,tR rfl,tR rfl,tR rfl,trivial⟩ trivial) he ?_
 rintro fu36 v11 b hm hi37
 revert hm
 refine VIf.b (fun h38 hm=> ?_) (fun h38 hm=> ?_)
 obtain⟨e39,hx40,hm⟩:=bd_some hm
 refine⟨_,el_idx (fun _=>rfl) hx40, ?_⟩
 refine⟨rfl, ?_⟩
 obtain⟨x41,hx42,hm⟩:=bd_some hm
 refine CallY.det (d_depot_isRecord e39 _ hx42) ?_
 revert hm
 refine VIf.b (fun h43 hm=> ?_) (fun h43 hm=> ?_)
 cases hm
 cases hi37
 have hm:=hk35
 cases hm
 exact RetY.le (leD.refl _)
 obtain⟨hg,hm⟩:=gd_some hm
 obtain⟨sl44,hy,hm⟩:=bd_some hm
 refine⟨hg,_,(flat_sub (c:=TRecord.c) (z:=8) (fun _=>rfl) _ _ _).trans (congrArg _ (Option.some.inj hy)), ?_⟩
 have hl:sl44.length=(v11).toNat-0:=by rw [←Option.some.inj hy];exact sub_len (by omega)
 rw [←hl]
 obtain⟨x45,hx46,hm⟩:=bd_some hm
 refine CallY.det (d_depot_next sl44 e39 _ hx46) ?_
 revert hm
 refine VIf.b (fun h47 hm=> ?_) (fun h47 hm=> ?_)
 cases hm
 cases hi37
 have hm:=hk35
 cases hm
 exact RetY.le (leD.refl _)
 cases hm
 exact⟨(_,(W (v11+1))),SubY.of 0 rfl ⟨tR rfl,tR rfl,tR rfl,tR rfl,trivial⟩ trivial,hi37,Nat.lt_succ_self _⟩
 cases hm
 cases hi37
 have hm:=hk35
 cases hm
 exact RetY.le (leD.refl _)
def m_slices_Equal_api_Card_api_Card_L1 (s1:(List TCard)) (s2:(List TCard)):Int→Option (Sum Int (Sum Int Bool)):=fun v8=>
 if(decide (v8<(s1.length:Int)))=true then
  Option.bind (idx s1 v8) fun e16=>
  Option.bind (idx s2 v8) fun e18=>
  if(!((e16.No==e18.No)&&((e16.Part==e18.Part)&&((e16.Parts==e18.Parts)&&((e16.Size==e18.Size)&&(e16.Text.toList==e18.Text.toList))))))=true then
   some (.inr (.inr false))
  else
   some (.inl (W (v8+1)))
 else
  some (.inr (.inl v8))
def m_slices_Equal_api_Card_api_Card (s1:(List TCard)) (s2:(List TCard)):Option Bool:=
 if((s1.length:Int) !=(s2.length:Int))=true then
  some false
 else
  Option.bind (loopF (m_slices_Equal_api_Card_api_Card_L1 s1 s2) 0) fun e=>
  match e with
  | .inl v21=>
   some true
  | .inr rr22=>
   some rr22
theorem d_slices_Equal_api_Card_api_Card (s1:(List TCard)) (s2:(List TCard)) (r:Bool) (hm:m_slices_Equal_api_Card_api_Card s1 s2=some r):Does Tryz.prog 135 [lD 5 s1 TCard.c,lD 5 s2 TCard.c] (fun x=>x=DB r):=by
 refine does_zy (X:=⟨Tryz.prog,tt,Tryz.f135.ntmps,pl135, [], [], [], [], []⟩) pok _ Tryz.func135 rfl rfl (Nat.le_of_ble_eq_true rfl) ?_
 revert hm
 refine VIf.b (fun h1 hm=> ?_) (fun h1 hm=> ?_)
 cases hm
 exact RetY.le (leD.refl _)
 obtain⟨ev23,he,hk24⟩:=bd_some hm
 refine LoopY.ofL (m_slices_Equal_api_Card_api_Card_L1 s1 s2) (fun v8=>⟨[(0,lD 5 s1 TCard.c),(1,lD 5 s2 TCard.c),(12,DI (s1.length:Int)),(13,DI v8)], [],0⟩) 0 (SubY.of 0 rfl ⟨tR rfl,tR rfl,tR rfl,tR rfl,trivial⟩ trivial) he ?_
 rintro fu25 v8 b hm hi26
 revert hm
 refine VIf.b (fun h27 hm=> ?_) (fun h27 hm=> ?_)
 refine⟨rfl, ?_⟩
 obtain⟨e28,hx29,hm⟩:=bd_some hm
 refine⟨_,el_idx (fun _=>rfl) hx29, ?_⟩
 obtain⟨e30,hx31,hm⟩:=bd_some hm
 refine⟨_,el_idx (fun _=>rfl) hx31, ?_⟩
 revert hm
 refine VIf.b (fun h32 hm=> ?_) (fun h32 hm=> ?_)
 cases hm
 cases hi26
 have hm:=hk24
 cases hm
 exact RetY.le (leD.refl _)
 cases hm
 exact⟨(_,(W (v8+1))),SubY.of 0 rfl ⟨tR rfl,tR rfl,tR rfl,tR rfl,trivial⟩ trivial,hi26,Nat.lt_succ_self _⟩
 cases hm
 cases hi26
 have hm:=hk24
 cases hm
 exact RetY.le (leD.refl _)
def m_depot_have (b_:TBox) (written:(List TRecord)):Option Bool:=
 Option.bind (m_depot_areWritten written) fun x1=>
 if x1=true then
  Option.bind (m_depot_all b_) fun x4=>
  Option.bind (m_depot_of written) fun x6=>
  Option.bind (m_slices_Equal_api_Card_api_Card x4 x6) fun x8=>
  some x8
 else
  some false
theorem d_depot_have (b_:TBox) (written:(List TRecord)) (r:Bool) (hm:m_depot_have b_ written=some r):Does Tryz.prog 83 [.agg (TBox.c b_),lD 8 written TRecord.c] (fun x=>x=DB r):=by
 refine does_zy (X:=⟨Tryz.prog,tt,Tryz.f83.ntmps, [], [], [], [], [], []⟩) pok _ Tryz.func83 rfl rfl (Nat.le_of_ble_eq_true rfl) ?_
 obtain⟨x1,hx2,hm⟩:=bd_some hm
 refine CallY.det (d_depot_areWritten written _ hx2) ?_
 revert hm
 refine VIf.b (fun h3 hm=> ?_) (fun h3 hm=> ?_)
 obtain⟨x4,hx5,hm⟩:=bd_some hm
 refine CallY.det (d_depot_all b_ _ hx5) ?_
 obtain⟨x6,hx7,hm⟩:=bd_some hm
 refine CallY.det (d_depot_of written _ hx7) ?_
 obtain⟨x8,hx9,hm⟩:=bd_some hm
 refine CallY.det (d_slices_Equal_api_Card_api_Card x4 x6 _ hx9) ?_
 cases hm
 exact RetY.le (leD.refl _)
 cases hm
 exact RetY.le (leD.refl _)
def m_depot_isBook_L1 (b_:TBook):(Int×Int×Int)→Option (Sum (Int×Int×Int) (Sum (Int×Int×Int) Bool)):=fun(v25,v26,v27)=>
 if(decide (v25<(b_.Records.length:Int)))=true then
  Option.bind (idx b_.Records v25) fun e53=>
  if(e53.At.Depot==v26)=true then
   if(e53.At.No==(W (v27+1)))=true then
    Option.bind (m_depot_isRecord e53) fun x57=>
    if(!x57)=true then
     some (.inr (.inr false))
    else
     some (.inl ((W (v25+1)),e53.At.Depot,e53.At.No))
   else
    if(decide (e53.At.Depot>v26))=true then
     Option.bind (m_depot_isRecord e53) fun x61=>
     if(!x61)=true then
      some (.inr (.inr false))
     else
      if(!(e53.At.No==0))=true then
       some (.inr (.inr false))
      else
       some (.inl ((W (v25+1)),e53.At.Depot,e53.At.No))
    else
     Option.bind (m_depot_isRecord e53) fun x65=>
     if(!x65)=true then
      some (.inr (.inr false))
     else
      some (.inr (.inr false))
  else
   if(decide (e53.At.Depot>v26))=true then
    Option.bind (m_depot_isRecord e53) fun x69=>
    if(!x69)=true then
     some (.inr (.inr false))
    else
     if(!(e53.At.No==0))=true then
      some (.inr (.inr false))
     else
      some (.inl ((W (v25+1)),e53.At.Depot,e53.At.No))
   else
    Option.bind (m_depot_isRecord e53) fun x73=>
    if(!x73)=true then
     some (.inr (.inr false))
    else
     some (.inr (.inr false))
 else
  some (.inr (.inl (v25,v26,v27)))
def m_depot_isBook (b_:TBook):Option Bool:=
 Option.bind (loopF (m_depot_isBook_L1 b_) (0,(-1),0)) fun e=>
 match e with
 | .inl (v76,v77,v78)=>
  some (decide ((b_.Records.length:Int)≤60))
 | .inr rr79=>
  some rr79
theorem d_depot_isBook (b_:TBook) (r:Bool) (hm:m_depot_isBook b_=some r):Does Tryz.prog 101 [.agg (TBook.c b_)] (fun x=>x=DB r):=by
 refine does_zy (X:=⟨Tryz.prog,tt,Tryz.f101.ntmps, [], [], [], [], [], []⟩) pok _ Tryz.func101 rfl rfl (Nat.le_of_ble_eq_true rfl) ?_
 obtain⟨ev80,he,hk81⟩:=bd_some hm
 refine LoopY.ofL (m_depot_isBook_L1 b_) (fun(v25,v26,v27)=>⟨[(1, .own 0 0),(3, .own 1 0),(9,lD 8 b_.Records TRecord.c),(10,DI (b_.Records.length:Int)),(11,DI v25)], [(0, .blk [lD 8 b_.Records TRecord.c] 70),(1, .blk [DI v26,DI v27] 36)],2⟩) (0,(-1),0) (SubY.of 2 rfl ⟨tR rfl,tR rfl,tR rfl,tR rfl,tR rfl,trivial⟩ ⟨hR rfl,hR rfl,trivial⟩) he ?_
 rintro fu82 ⟨v25,v26,v27⟩ b hm hi83
 revert hm
 refine VIf.b (fun h84 hm=> ?_) (fun h84 hm=> ?_)
 obtain⟨e85,hx86,hm⟩:=bd_some hm
 refine⟨_,el_idx (fun _=>rfl) hx86, ?_⟩
 revert hm
 refine VIf.b (fun h87 hm=> ?_) (fun h87 hm=> ?_)
 revert hm
 refine VIf.b (fun h88 hm=> ?_) (fun h88 hm=> ?_)
 obtain⟨x89,hx90,hm⟩:=bd_some hm
 refine CallY.det (d_depot_isRecord e85 _ hx90) ?_
 revert hm
 refine VIf.b (fun h91 hm=> ?_) (fun h91 hm=> ?_)
 cases hm
 cases hi83
 have hm:=hk81
 cases hm
 exact RetY.le (leD.refl _)
 cases hm
 exact⟨(_,((W (v25+1)),e85.At.Depot,e85.At.No)),SubY.of 2 rfl ⟨tR rfl,tR rfl,tR rfl,tR rfl,tR rfl,trivial⟩ ⟨hR rfl,hR rfl,trivial⟩,hi83,Nat.lt_succ_self _⟩
 revert hm
 refine VIf.b (fun h92 hm=> ?_) (fun h92 hm=> ?_)
 obtain⟨x93,hx94,hm⟩:=bd_some hm
 refine CallY.det (d_depot_isRecord e85 _ hx94) ?_
 revert hm
 refine VIf.b (fun h95 hm=> ?_) (fun h95 hm=> ?_)
 cases hm
 cases hi83
 have hm:=hk81
 cases hm
 exact RetY.le (leD.refl _)
 revert hm
 refine VIf.b (fun h96 hm=> ?_) (fun h96 hm=> ?_)
 cases hm
 cases hi83
 have hm:=hk81
 cases hm
 exact RetY.le (leD.refl _)
 cases hm
 exact⟨(_,((W (v25+1)),e85.At.Depot,e85.At.No)),SubY.of 2 rfl ⟨tR rfl,tR rfl,tR rfl,tR rfl,tR rfl,trivial⟩ ⟨hR rfl,hR rfl,trivial⟩,hi83,Nat.lt_succ_self _⟩
 obtain⟨x97,hx98,hm⟩:=bd_some hm
 refine CallY.det (d_depot_isRecord e85 _ hx98) ?_
 revert hm
 refine VIf.b (fun h99 hm=> ?_) (fun h99 hm=> ?_)
 cases hm
 cases hi83
 have hm:=hk81
 cases hm
 exact RetY.le (leD.refl _)
 cases hm
 cases hi83
 have hm:=hk81
 cases hm
 exact RetY.le (leD.refl _)
 revert hm
 refine VIf.b (fun h100 hm=> ?_) (fun h100 hm=> ?_)
 obtain⟨x101,hx102,hm⟩:=bd_some hm
 refine CallY.det (d_depot_isRecord e85 _ hx102) ?_
 revert hm
 refine VIf.b (fun h103 hm=> ?_) (fun h103 hm=> ?_)
 cases hm
 cases hi83
 have hm:=hk81
 cases hm
 exact RetY.le (leD.refl _)
 revert hm
 refine VIf.b (fun h104 hm=> ?_) (fun h104 hm=> ?_)
 cases hm
 cases hi83
 have hm:=hk81
 cases hm
 exact RetY.le (leD.refl _)
 cases hm
 exact⟨(_,((W (v25+1)),e85.At.Depot,e85.At.No)),SubY.of 2 rfl ⟨tR rfl,tR rfl,tR rfl,tR rfl,tR rfl,trivial⟩ ⟨hR rfl,hR rfl,trivial⟩,hi83,Nat.lt_succ_self _⟩
 obtain⟨x105,hx106,hm⟩:=bd_some hm
 refine CallY.det (d_depot_isRecord e85 _ hx106) ?_
 revert hm
 refine VIf.b (fun h107 hm=> ?_) (fun h107 hm=> ?_)
 cases hm
 cases hi83
 have hm:=hk81
 cases hm
 exact RetY.le (leD.refl _)
 cases hm
 cases hi83
 have hm:=hk81
 cases hm
 exact RetY.le (leD.refl _)
 cases hm
 cases hi83
 have hm:=hk81
 cases hm
 exact RetY.le (leD.refl _)
def m_slices_Clone_api_Record_api_Record (s:List TRecord):Option (List TRecord):=gd (s.length*72≤140737488355328∧s.length≤9223372036854775807) (some s)
theorem d_slices_Clone_api_Record_api_Record (s:List TRecord) (r:List TRecord) (hm:m_slices_Clone_api_Record_api_Record s=some r):Does Tryz.prog 102 [.lst 8 s.length (s.flatMap TRecord.c)] (fun x=>x= .lst 8 r.length (r.flatMap TRecord.c)):=by
 obtain⟨hg,hm⟩:=gd_some hm
 cases hm
 refine does_zy (X:=⟨Tryz.prog,tt,Tryz.f102.ntmps, [], [], [], [], [], []⟩) pok _ Tryz.func102 rfl rfl (Nat.le_of_ble_eq_true rfl) ?_
 intro b hb
 refine VIf.mk (fun h=> ?_) (fun h=> ?_)
 · have h0:=hb h
   have h1:s= []:=List.eq_nil_of_length_eq_zero h0
   subst h1
   exact RetY.le leD.nil
 · refine⟨[],0,⟨rfl,rfl⟩, ?_⟩
   exact⟨by omega,s.flatMap TRecord.c,s.length,⟨rfl,Nat.zero_add _⟩,RetY.le (leD.refl _)⟩
theorem u_slices_Clone_api_Record_api_Record (s:List TRecord) (r:List TRecord) (hm:m_slices_Clone_api_Record_api_Record s=some r):DoesU Tryz.prog 102 [.lst 8 s.length (s.flatMap TRecord.c)] 8 r.length (r.flatMap TRecord.c) 38:=by
 obtain⟨hg,hm⟩:=gd_some hm
 cases hm
 refine does_zu (X:=⟨Tryz.prog,tt,Tryz.f102.ntmps, [], [], [], [], [], []⟩) pok _ Tryz.func102 rfl rfl (Nat.le_of_ble_eq_true rfl) ?_
 intro b hb
 refine VIf.mk (fun h=> ?_) (fun h=> ?_)
 · have h0:=hb h
   have h1:s= []:=List.eq_nil_of_length_eq_zero h0
   subst h1
   exact⟨rfl,rfl⟩
 · refine⟨[],0,⟨rfl,rfl⟩, ?_⟩
   exact⟨by omega,s.flatMap TRecord.c,s.length,⟨rfl,Nat.zero_add _⟩,⟨rfl,rfl⟩⟩
def m_cmp_Or_int_L1 (vals:(List Int)):Int→Option (Sum Int (Sum Int Int)):=fun v5=>
 if(decide (v5<(vals.length:Int)))=true then
  Option.bind (idx vals v5) fun e11=>
  if(e11 !=0)=true then
   some (.inr (.inr e11))
  else
   some (.inl (W (v5+1)))
 else
  some (.inr (.inl v5))
def m_cmp_Or_int (vals:(List Int)):Option Int:=
 Option.bind (loopF (m_cmp_Or_int_L1 vals) 0) fun e=>
 match e with
 | .inl v14=>
  some 0
 | .inr rr15=>
  some rr15
theorem d_cmp_Or_int (vals:(List Int)) (r:Int) (hm:m_cmp_Or_int vals=some r):Does Tryz.prog 165 [lD 1 vals cI] (fun x=>x=DI r):=by
 refine does_zy (X:=⟨Tryz.prog,tt,Tryz.f165.ntmps, [], [], [], [], [], []⟩) pok _ Tryz.func165 rfl rfl (Nat.le_of_ble_eq_true rfl) ?_
 obtain⟨ev16,he,hk17⟩:=bd_some hm
 refine LoopY.ofL (m_cmp_Or_int_L1 vals) (fun v5=>⟨[(3,DI 0),(6,lD 1 vals cI),(7,DI (vals.length:Int)),(8,DI v5)], [],0⟩) 0 (SubY.of 0 rfl ⟨tR rfl,tR rfl,tR rfl,tR rfl,trivial⟩ trivial) he ?_
 rintro fu18 v5 b hm hi19
 revert hm
 refine VIf.b (fun h20 hm=> ?_) (fun h20 hm=> ?_)
 obtain⟨e21,hx22,hm⟩:=bd_some hm
 refine⟨_,el_idx (fun _=>rfl) hx22, ?_⟩
 revert hm
 refine VIf.b (fun h23 hm=> ?_) (fun h23 hm=> ?_)
 cases hm
 cases hi19
 have hm:=hk17
 cases hm
 exact RetY.le (leD.refl _)
 cases hm
 exact⟨(_,(W (v5+1))),SubY.of 0 rfl ⟨tR rfl,tR rfl,tR rfl,tR rfl,trivial⟩ trivial,hi19,Nat.lt_succ_self _⟩
 cases hm
 cases hi19
 have hm:=hk17
 cases hm
 exact RetY.le (leD.refl _)
def m_cmp_isNaN_int (x:Int):Option Bool:=
 some (x !=x)
theorem d_cmp_isNaN_int (x:Int) (r:Bool) (hm:m_cmp_isNaN_int x=some r):Does Tryz.prog 178 [DI x] (fun x=>x=DB r):=by
 refine does_zy (X:=⟨Tryz.prog,tt,Tryz.f178.ntmps, [], [], [], [], [], []⟩) pok _ Tryz.func178 rfl rfl (Nat.le_of_ble_eq_true rfl) ?_
 cases hm
 exact RetY.le (leD.refl _)
def m_cmp_Compare_int (x:Int) (y:Int):Option Int:=
 Option.bind (m_cmp_isNaN_int x) fun x1=>
 Option.bind (m_cmp_isNaN_int y) fun x3=>
 if x1=true then
  if x3=true then
   some 0
  else
   some (-1)
 else
  if x3=true then
   some 1
  else
   if(decide (x<y))=true then
    some (-1)
   else
    if(decide (x>y))=true then
     some 1
    else
     some 0
theorem d_cmp_Compare_int (x:Int) (y:Int) (r:Int) (hm:m_cmp_Compare_int x y=some r):Does Tryz.prog 166 [DI x,DI y] (fun x=>x=DI r):=by
 refine does_zy (X:=⟨Tryz.prog,tt,Tryz.f166.ntmps, [], [], [], [], [], []⟩) pok _ Tryz.func166 rfl rfl (Nat.le_of_ble_eq_true rfl) ?_
 obtain⟨x1,hx2,hm⟩:=bd_some hm
 refine CallY.det (d_cmp_isNaN_int x _ hx2) ?_
 obtain⟨x3,hx4,hm⟩:=bd_some hm
 refine CallY.det (d_cmp_isNaN_int y _ hx4) ?_
 revert hm
 refine VIf.b (fun h5 hm=> ?_) (fun h5 hm=> ?_)
 revert hm
 refine VIf.b (fun h6 hm=> ?_) (fun h6 hm=> ?_)
 cases hm
 exact RetY.le (leD.refl _)
 cases hm
 exact RetY.le (leD.refl _)
 revert hm
 refine VIf.b (fun h7 hm=> ?_) (fun h7 hm=> ?_)
 cases hm
 exact RetY.le (leD.refl _)
 revert hm
 refine VIf.b (fun h8 hm=> ?_) (fun h8 hm=> ?_)
 cases hm
 exact RetY.le (leD.refl _)
 revert hm
 refine VIf.b (fun h9 hm=> ?_) (fun h9 hm=> ?_)
 cases hm
 exact RetY.le (leD.refl _)
 cases hm
 exact RetY.le (leD.refl _)
def m_depot_compare (a:TItem) (b_:TItem):Option Int:=
 Option.bind (m_cmp_Compare_int a.Depot b_.Depot) fun x1=>
 Option.bind (m_cmp_Compare_int a.No b_.No) fun x3=>
 Option.bind (m_cmp_Or_int ([x1,x3]:List Int)) fun x5=>
 some x5
theorem d_depot_compare (a:TItem) (b_:TItem) (r:Int) (hm:m_depot_compare a b_=some r):Does Tryz.prog 147 [.agg (TItem.c a), .agg (TItem.c b_)] (fun x=>x=DI r):=by
 refine does_zy (X:=⟨Tryz.prog,tt,Tryz.f147.ntmps,pl147, [], [], [], [], []⟩) pok _ Tryz.func147 rfl rfl (Nat.le_of_ble_eq_true rfl) ?_
 refine⟨rfl, ?_⟩
 obtain⟨x1,hx2,hm⟩:=bd_some hm
 refine CallY.det (d_cmp_Compare_int a.Depot b_.Depot _ hx2) ?_
 obtain⟨x3,hx4,hm⟩:=bd_some hm
 refine CallY.det (d_cmp_Compare_int a.No b_.No _ hx4) ?_
 refine⟨([x1,x3]:List Int).flatMap cI,([x1,x3]:List Int).length,⟨rfl,rfl⟩, ?_⟩
 obtain⟨x5,hx6,hm⟩:=bd_some hm
 refine CallOwn.det (d_cmp_Or_int (([x1,x3]:List Int)) _ hx6) ?_
 cases hm
 exact RetY.le (leD.refl _)
def m_depot_find_1 (r_:TRecord) (at_:TItem):Option Int:=
 Option.bind (m_depot_compare r_.At at_) fun x1=>
 some x1
theorem d_depot_find_1 (r_:TRecord) (at_:TItem) (r:Int) (hm:m_depot_find_1 r_ at_=some r):Does Tryz.prog 146 [.agg (TRecord.c r_), .agg (TItem.c at_)] (fun x=>x=DI r):=by
 refine does_zy (X:=⟨Tryz.prog,tt,Tryz.f146.ntmps, [], [], [], [], [], []⟩) pok _ Tryz.func146 rfl rfl (Nat.le_of_ble_eq_true rfl) ?_
 obtain⟨x1,hx2,hm⟩:=bd_some hm
 refine CallY.det (d_depot_compare r_.At at_ _ hx2) ?_
 cases hm
 exact RetY.le (leD.refl _)
def m_slices_BinarySearchFunc_api_Record_api_Record_api_Item__depot_find_1_L1 (x:(List TRecord)) (target:TItem):(Int×Int)→Option (Sum (Int×Int) (Int×Int)):=fun(i7,j8)=>
 if(decide (i7<j8))=true then
  Option.bind (idx x (W ((IntKind.u64.wrap (W (i7+j8))).fdiv (2^(min (1:Int).toNat IntKind.u64.bits))))) fun e16=>
  Option.bind (m_depot_find_1 e16 target) fun x18=>
  if(decide (x18<0))=true then
   some (.inl ((W ((W ((IntKind.u64.wrap (W (i7+j8))).fdiv (2^(min (1:Int).toNat IntKind.u64.bits))))+1)),j8))
  else
   some (.inl (i7,(W ((IntKind.u64.wrap (W (i7+j8))).fdiv (2^(min (1:Int).toNat IntKind.u64.bits))))))
 else
  some (.inr (i7,j8))
def m_slices_BinarySearchFunc_api_Record_api_Record_api_Item__depot_find_1 (x:(List TRecord)) (target:TItem):Option (Int×Bool):=
 Option.bind (loopF (m_slices_BinarySearchFunc_api_Record_api_Record_api_Item__depot_find_1_L1 x target) (0,(x.length:Int))) fun(i21,j22)=>
 if(decide (i21<(x.length:Int)))=true then
  Option.bind (idx x i21) fun e24=>
  Option.bind (m_depot_find_1 e24 target) fun x26=>
  some (i21,(x26==0))
 else
  some (i21,false)
theorem d_slices_BinarySearchFunc_api_Record_api_Record_api_Item__depot_find_1 (x:(List TRecord)) (target:TItem) (r:(Int×Bool)) (hm:m_slices_BinarySearchFunc_api_Record_api_Record_api_Item__depot_find_1 x target=some r):Does Tryz.prog 145 [lD 8 x TRecord.c, .agg (TItem.c target), .fn 146 [] []] (fun x=>x= .tup [DI r.1,DB r.2]):=by
 refine does_zy (X:=⟨Tryz.prog,tt,Tryz.f145.ntmps,pl145, [], [], [], [], []⟩) pok _ Tryz.func145 rfl rfl (Nat.le_of_ble_eq_true rfl) ?_
 obtain⟨ev28,he,hk29⟩:=bd_some hm
 refine LoopY.ofL (m_slices_BinarySearchFunc_api_Record_api_Record_api_Item__depot_find_1_L1 x target) (fun(i7,j8)=>⟨[(0,lD 8 x TRecord.c),(2, .fn 146 [] []),(4, .own 0 0),(8,DI (x.length:Int)),(9,DI i7),(10,DI j8)], [(0, .blk [DI target.Depot,DI target.No] 36)],1⟩) (0,(x.length:Int)) (SubY.of 1 rfl ⟨tR rfl,tR rfl,tR rfl,tR rfl,tR rfl,tR rfl,trivial⟩ ⟨hR rfl,trivial⟩) he ?_
 rintro fu30 ⟨i7,j8⟩ b hm hi31
 revert hm
 refine VIf.b (fun h32 hm=> ?_) (fun h32 hm=> ?_)
 refine⟨by decide, ?_⟩
 refine⟨rfl, ?_⟩
 obtain⟨e33,hx34,hm⟩:=bd_some hm
 refine⟨_,el_idx (fun _=>rfl) hx34, ?_⟩
 obtain⟨x35,hx36,hm⟩:=bd_some hm
 refine CallY.det (d_depot_find_1 e33 target _ hx36) ?_
 revert hm
 refine VIf.b (fun h37 hm=> ?_) (fun h37 hm=> ?_)
 cases hm
 exact⟨(_,((W ((W ((IntKind.u64.wrap (W (i7+j8))).fdiv (2^(min (1:Int).toNat IntKind.u64.bits))))+1)),j8)),SubY.of 1 rfl ⟨tR rfl,tR rfl,tR rfl,tR rfl,tR rfl,tR rfl,trivial⟩ ⟨hR rfl,trivial⟩,hi31,Nat.lt_succ_self _⟩
 cases hm
 exact⟨(_,(i7,(W ((IntKind.u64.wrap (W (i7+j8))).fdiv (2^(min (1:Int).toNat IntKind.u64.bits)))))),SubY.of 1 rfl ⟨tR rfl,tR rfl,tR rfl,tR rfl,tR rfl,tR rfl,trivial⟩ ⟨hR rfl,trivial⟩,hi31,Nat.lt_succ_self _⟩
 cases hm
 cases hi31
 have hm:=hk29
 refine⟨rfl, ?_⟩
 revert hm
 refine VIf.b (fun h38 hm=> ?_) (fun h38 hm=> ?_)
 obtain⟨e39,hx40,hm⟩:=bd_some hm
 refine⟨_,el_idx (fun _=>rfl) hx40, ?_⟩
 obtain⟨x41,hx42,hm⟩:=bd_some hm
 refine CallY.det (d_depot_find_1 e39 target _ hx42) ?_
 cases hm
 exact RetY.le (leD.refl _)
 cases hm
 exact RetY.le (leD.refl _)
def m_depot_find (b_:TBook) (at_:TItem):Option (Int×Bool):=
 Option.bind (m_slices_BinarySearchFunc_api_Record_api_Record_api_Item__depot_find_1 b_.Records at_) fun⟨x1,x2⟩=>
 some (x1,x2)
theorem d_depot_find (b_:TBook) (at_:TItem) (r:(Int×Bool)) (hm:m_depot_find b_ at_=some r):Does Tryz.prog 103 [.agg (TBook.c b_), .agg (TItem.c at_)] (fun x=>x= .tup [DI r.1,DB r.2]):=by
 refine does_zy (X:=⟨Tryz.prog,tt,Tryz.f103.ntmps, [], [], [], [], [], []⟩) pok _ Tryz.func103 rfl rfl (Nat.le_of_ble_eq_true rfl) ?_
 obtain⟨⟨x1,x2⟩,hx3,hm⟩:=bd_some hm
 refine CallY.det (d_slices_BinarySearchFunc_api_Record_api_Record_api_Item__depot_find_1 b_.Records at_ _ hx3) ?_
 cases hm
 exact RetY.le (leD.refl _)
def m_depot_Add (b_:TBook) (r_:TRecord):Option (TBook×Int):=
 Option.bind (m_depot_isBook b_) fun x1=>
 if(!x1)=true then
  some ((⟨[]⟩:TBook),81)
 else
  Option.bind (m_depot_isRecord r_) fun x4=>
  if(!x4)=true then
   some ((⟨[]⟩:TBook),80)
  else
   Option.bind (m_depot_find b_ r_.At) fun⟨x7,x8⟩=>
   if x8=true then
    Option.bind (idx b_.Records x7) fun e11=>
    if((e11.At.Depot==r_.At.Depot)&&((e11.At.No==r_.At.No)&&((e11.Kind==r_.Kind)&&((e11.Day==r_.Day)&&((e11.Known==r_.Known)&&((e11.Of.Depot==r_.Of.Depot)&&((e11.Of.No==r_.Of.No)&&(e11.Text.toList==r_.Text.toList))))))))=true then
     Option.bind (m_depot_sorted b_.Records) fun x14=>
     some (x14,0)
    else
     some ((⟨[]⟩:TBook),82)
   else
    Option.bind (m_depot_has b_.Records) fun x16=>
    Option.bind (idx [x16.1,x16.2.1,x16.2.2.1,x16.2.2.2.1,x16.2.2.2.2.1,x16.2.2.2.2.2] r_.At.Depot) fun e18=>
    if(decide (e18<r_.At.No))=true then
     some ((⟨[]⟩:TBook),83)
    else
     if((b_.Records.length:Int)==60)=true then
      some ((⟨[]⟩:TBook),2)
     else
      Option.bind (m_slices_Clone_api_Record_api_Record b_.Records) fun x22=>
      gd ((x22.length+([r_]:List TRecord).length)*72≤140737488355328∧x22.length+([r_]:List TRecord).length≤9223372036854775807)<|
      Option.bind (m_depot_sorted (x22++([r_]:List TRecord))) fun x24=>
      some (x24,0)
theorem d_depot_Add (b_:TBook) (r_:TRecord) (r:(TBook×Int)) (hm:m_depot_Add b_ r_=some r):Does Tryz.prog 46 [.agg (TBook.c b_), .agg (TRecord.c r_)] (fun x=>x= .tup [.agg (TBook.c r.1),DI r.2]):=by
 refine does_zy (X:=⟨Tryz.prog,tt,Tryz.f46.ntmps,pl46, [80,112,155,175], [102], [], [], []⟩) pok _ Tryz.func46 rfl rfl (Nat.le_of_ble_eq_true rfl) ?_
 obtain⟨x1,hx2,hm⟩:=bd_some hm
 refine CallY.det (d_depot_isBook b_ _ hx2) ?_
 revert hm
 refine VIf.b (fun h3 hm=> ?_) (fun h3 hm=> ?_)
 cases hm
 exact RetY.le (le3)
 obtain⟨x4,hx5,hm⟩:=bd_some hm
 refine CallY.det (d_depot_isRecord r_ _ hx5) ?_
 revert hm
 refine VIf.b (fun h6 hm=> ?_) (fun h6 hm=> ?_)
 cases hm
 exact RetY.le (le3)
 obtain⟨⟨x7,x8⟩,hx9,hm⟩:=bd_some hm
 refine CallY.det (d_depot_find b_ r_.At _ hx9) ?_
 refine⟨rfl, ?_⟩
 revert hm
 refine VIf.b (fun h10 hm=> ?_) (fun h10 hm=> ?_)
 obtain⟨e11,hx12,hm⟩:=bd_some hm
 refine⟨_,el_idx (fun _=>rfl) hx12, ?_⟩
 revert hm
 refine VIf.b (fun h13 hm=> ?_) (fun h13 hm=> ?_)
 obtain⟨x14,hx15,hm⟩:=bd_some hm
 refine CallY.det (d_depot_sorted b_.Records _ hx15) ?_
 cases hm
 exact RetY.le (leD.refl _)
 refine VIf.t h10 ?_
 cases hm
 exact RetY.le (le3)
 refine VIf.f h10 ?_
 refine⟨rfl, ?_⟩
 obtain⟨x16,hx17,hm⟩:=bd_some hm
 refine CallY.det (d_depot_has b_.Records _ hx17) ?_
 obtain⟨e18,hx19,hm⟩:=bd_some hm
 refine⟨idx_bd hx19,_,ldx (c:=cI) (z:=1) (pre:= []) (post:= []) (b:=0) (off:=0) (fun _=>rfl) hx19 rfl rfl (by omega) rfl, ?_⟩
 revert hm
 refine VIf.b (fun h20 hm=> ?_) (fun h20 hm=> ?_)
 cases hm
 exact RetY.le (le3)
 revert hm
 refine VIf.b (fun h21 hm=> ?_) (fun h21 hm=> ?_)
 cases hm
 exact RetY.le (le3)
 refine⟨rfl, ?_⟩
 refine⟨?_, ?_⟩
 obtain⟨x22,hx23,hm⟩:=bd_some hm
 refine .inl (CallU.mk ⟨_,_,_,_,u_slices_Clone_api_Record_api_Record b_.Records _ hx23, ?_⟩)
 refine⟨([r_]:List TRecord).flatMap TRecord.c,([r_]:List TRecord).length,⟨rfl,rfl⟩, ?_⟩
 obtain⟨hg,hm⟩:=gd_some hm
 refine⟨hg,_,_,flat_app (c:=TRecord.c) (l:=(x22:List TRecord)) (r:=(([r_]:List TRecord):List TRecord)), ?_⟩
 obtain⟨x24,hx25,hm⟩:=bd_some hm
 refine CallOwn.det (d_depot_sorted ((x22++([r_]:List TRecord))) _ hx25) ?_
 cases hm
 exact RetY.le (leD.refl _)
 refine⟨([r_]:List TRecord).flatMap TRecord.c,([r_]:List TRecord).length,⟨rfl,rfl⟩, ?_⟩
 obtain⟨x26,hx27,hm⟩:=bd_some hm
 refine .inl (CallU.mk ⟨_,_,_,_,u_slices_Clone_api_Record_api_Record b_.Records _ hx27, ?_⟩)
 obtain⟨hg,hm⟩:=gd_some hm
 refine⟨hg,_,_,flat_app (c:=TRecord.c) (l:=(x26:List TRecord)) (r:=(([r_]:List TRecord):List TRecord)), ?_⟩
 obtain⟨x28,hx29,hm⟩:=bd_some hm
 refine CallOwn.det (d_depot_sorted ((x26++([r_]:List TRecord))) _ hx29) ?_
 cases hm
 exact RetY.le (leD.refl _)
def m_slices_Index_api_Record_api_Record_L1 (s:(List TRecord)) (v:TRecord):Int→Option (Sum Int (Sum Int Int)):=fun v5=>
 if(decide (v5<(s.length:Int)))=true then
  Option.bind (idx s v5) fun e11=>
  if((v.At.Depot==e11.At.Depot)&&((v.At.No==e11.At.No)&&((v.Kind==e11.Kind)&&((v.Day==e11.Day)&&((v.Known==e11.Known)&&((v.Of.Depot==e11.Of.Depot)&&((v.Of.No==e11.Of.No)&&(v.Text.toList==e11.Text.toList))))))))=true then
   some (.inr (.inr v5))
  else
   some (.inl (W (v5+1)))
 else
  some (.inr (.inl v5))
def m_slices_Index_api_Record_api_Record (s:(List TRecord)) (v:TRecord):Option Int:=
 Option.bind (loopF (m_slices_Index_api_Record_api_Record_L1 s v) 0) fun e=>
 match e with
 | .inl v14=>
  some (-1)
 | .inr rr15=>
  some rr15
theorem d_slices_Index_api_Record_api_Record (s:(List TRecord)) (v:TRecord) (r:Int) (hm:m_slices_Index_api_Record_api_Record s v=some r):Does Tryz.prog 161 [lD 8 s TRecord.c, .agg (TRecord.c v)] (fun x=>x=DI r):=by
 refine does_zy (X:=⟨Tryz.prog,tt,Tryz.f161.ntmps,pl161, [], [], [], [], []⟩) pok _ Tryz.func161 rfl rfl (Nat.le_of_ble_eq_true rfl) ?_
 obtain⟨ev16,he,hk17⟩:=bd_some hm
 refine LoopY.ofL (m_slices_Index_api_Record_api_Record_L1 s v) (fun v5=>⟨[(0,lD 8 s TRecord.c),(3, .own 0 0),(7,DI (s.length:Int)),(8,DI v5)], [(0, .blk [DI v.At.Depot,DI v.At.No,DI v.Kind,DI v.Day,DI v.Known,DI v.Of.Depot,DI v.Of.No, .v (.string v.Text)] 38)],1⟩) 0 (SubY.of 1 rfl ⟨tR rfl,tR rfl,tR rfl,tR rfl,trivial⟩ ⟨hR rfl,trivial⟩) he ?_
 rintro fu18 v5 b hm hi19
 revert hm
 refine VIf.b (fun h20 hm=> ?_) (fun h20 hm=> ?_)
 refine⟨rfl, ?_⟩
 obtain⟨e21,hx22,hm⟩:=bd_some hm
 refine⟨_,el_idx (fun _=>rfl) hx22, ?_⟩
 revert hm
 refine VIf.b (fun h23 hm=> ?_) (fun h23 hm=> ?_)
 cases hm
 cases hi19
 have hm:=hk17
 cases hm
 exact RetY.le (leD.refl _)
 cases hm
 exact⟨(_,(W (v5+1))),SubY.of 1 rfl ⟨tR rfl,tR rfl,tR rfl,tR rfl,trivial⟩ ⟨hR rfl,trivial⟩,hi19,Nat.lt_succ_self _⟩
 cases hm
 cases hi19
 have hm:=hk17
 cases hm
 exact RetY.le (leD.refl _)
def m_slices_Contains_api_Record_api_Record (s:(List TRecord)) (v:TRecord):Option Bool:=
 Option.bind (m_slices_Index_api_Record_api_Record s v) fun x1=>
 some (decide (x1≥0))
theorem d_slices_Contains_api_Record_api_Record (s:(List TRecord)) (v:TRecord) (r:Bool) (hm:m_slices_Contains_api_Record_api_Record s v=some r):Does Tryz.prog 136 [lD 8 s TRecord.c, .agg (TRecord.c v)] (fun x=>x=DB r):=by
 refine does_zy (X:=⟨Tryz.prog,tt,Tryz.f136.ntmps, [], [], [], [], [], []⟩) pok _ Tryz.func136 rfl rfl (Nat.le_of_ble_eq_true rfl) ?_
 obtain⟨x1,hx2,hm⟩:=bd_some hm
 refine CallY.det (d_slices_Index_api_Record_api_Record s v _ hx2) ?_
 cases hm
 exact RetY.le (leD.refl _)
def m_depot_copied (b_:TBox):Option TBox:=
 Option.bind (m_slices_Clone_api_Card_api_Card b_.Thread) fun x1=>
 Option.bind (m_slices_Clone_api_Card_api_Card b_.Loose) fun x3=>
 some (⟨x1,x3⟩:TBox)
theorem d_depot_copied (b_:TBox) (r:TBox) (hm:m_depot_copied b_=some r):Does Tryz.prog 137 [.agg (TBox.c b_)] (fun x=>x= .agg (TBox.c r)):=by
 refine does_zy (X:=⟨Tryz.prog,tt,Tryz.f137.ntmps,pl137, [], [], [], [], []⟩) pok _ Tryz.func137 rfl rfl (Nat.le_of_ble_eq_true rfl) ?_
 refine⟨rfl, ?_⟩
 obtain⟨x1,hx2,hm⟩:=bd_some hm
 refine CallY.det (d_slices_Clone_api_Card_api_Card b_.Thread _ hx2) ?_
 obtain⟨x3,hx4,hm⟩:=bd_some hm
 refine CallY.det (d_slices_Clone_api_Card_api_Card b_.Loose _ hx4) ?_
 cases hm
 exact RetY.le (leD.refl _)
theorem dm_depot_copied (b_:TBox) (r:TBox) (hm:m_depot_copied b_=some r):DoesM Tryz.prog 137 [.agg (TBox.c b_)] [(5,r.Thread.length,r.Thread.flatMap TCard.c,53),(5,r.Loose.length,r.Loose.flatMap TCard.c,53)] [.row 0 5, .row 1 5]:=by
 refine does_zm (X:=⟨Tryz.prog,tt,Tryz.f137.ntmps,pl137, [80,112,155,175], [78], [], [], []⟩) pok _ Tryz.func137 rfl rfl (Nat.le_of_ble_eq_true rfl) rfl ?_
 refine⟨rfl, ?_⟩
 obtain⟨x1,hx2,hm⟩:=bd_some hm
 refine .inl (CallU.mk ⟨_,_,_,_,u_slices_Clone_api_Card_api_Card b_.Thread _ hx2, ?_⟩)
 obtain⟨x3,hx4,hm⟩:=bd_some hm
 refine .inl (CallU.mk ⟨_,_,_,_,u_slices_Clone_api_Card_api_Card b_.Loose _ hx4, ?_⟩)
 cases hm
 exact⟨rfl,⟨⟨rfl,rfl,rfl,rfl⟩,⟨⟨rfl,rfl,rfl,rfl⟩,rfl⟩⟩⟩
def m_depot_write (b_:TBox) (written:(List TRecord)) (r_:TRecord):Option (TBox×(List TRecord)×Int):=
 Option.bind (m_slices_Contains_api_Record_api_Record written r_) fun x1=>
 if x1=true then
  Option.bind (m_depot_copied b_) fun x4=>
  Option.bind (m_slices_Clone_api_Record_api_Record written) fun x6=>
  some (x4,x6,0)
 else
  Option.bind (m_depot_sorted written) fun x8=>
  Option.bind (m_depot_Add x8 r_) fun⟨x10,x11⟩=>
  if(x11 !=0)=true then
   some ((⟨[], []⟩:TBox), [],x11)
  else
   Option.bind (m_depot_copied b_) fun x14=>
   Option.bind (m_depot_cards r_ (written.length:Int)) fun x16=>
   gd ((x14.Loose.length+x16.length)*48≤140737488355328∧x14.Loose.length+x16.length≤9223372036854775807)<|
   Option.bind (m_slices_Clone_api_Record_api_Record written) fun x18=>
   gd ((x18.length+([r_]:List TRecord).length)*72≤140737488355328∧x18.length+([r_]:List TRecord).length≤9223372036854775807)<|
   some ((⟨x14.Thread,(x14.Loose++x16)⟩:TBox),(x18++([r_]:List TRecord)),0)
theorem d_depot_write (b_:TBox) (written:(List TRecord)) (r_:TRecord) (r:(TBox×(List TRecord)×Int)) (hm:m_depot_write b_ written r_=some r):Does Tryz.prog 84 [.agg (TBox.c b_),lD 8 written TRecord.c, .agg (TRecord.c r_)] (fun x=>x= .tup [.agg (TBox.c r.1),lD 8 r.2.1 TRecord.c,DI r.2.2]):=by
 refine does_zy (X:=⟨Tryz.prog,tt,Tryz.f84.ntmps,pl84, [80,112,155,175], [102,137], [], [], []⟩) pok _ Tryz.func84 rfl rfl (Nat.le_of_ble_eq_true rfl) ?_
 obtain⟨x1,hx2,hm⟩:=bd_some hm
 refine CallY.det (d_slices_Contains_api_Record_api_Record written r_ _ hx2) ?_
 revert hm
 refine VIf.b (fun h3 hm=> ?_) (fun h3 hm=> ?_)
 obtain⟨x4,hx5,hm⟩:=bd_some hm
 refine .inr (CallM.mk ⟨_,_,dm_depot_copied b_ _ hx5, ?_⟩)
 obtain⟨x6,hx7,hm⟩:=bd_some hm
 refine .inl (CallU.mk ⟨_,_,_,_,u_slices_Clone_api_Record_api_Record written _ hx7, ?_⟩)
 cases hm
 exact RetY.le (leD.refl _)
 refine⟨rfl, ?_⟩
 obtain⟨x8,hx9,hm⟩:=bd_some hm
 refine CallY.det (d_depot_sorted written _ hx9) ?_
 obtain⟨⟨x10,x11⟩,hx12,hm⟩:=bd_some hm
 refine CallY.det (d_depot_Add x8 r_ _ hx12) ?_
 revert hm
 refine VIf.b (fun h13 hm=> ?_) (fun h13 hm=> ?_)
 cases hm
 exact RetY.le (le4)
 obtain⟨x14,hx15,hm⟩:=bd_some hm
 refine .inr (CallM.mk ⟨_,_,dm_depot_copied b_ _ hx15, ?_⟩)
 refine⟨rfl, ?_⟩
 obtain⟨x16,hx17,hm⟩:=bd_some hm
 refine CallY.det (d_depot_cards r_ ((written.length:Int)) _ hx17) ?_
 obtain⟨hg,hm⟩:=gd_some hm
 refine⟨hg,_,_,flat_app (c:=TCard.c) (l:=(x14.Loose:List TCard)) (r:=(x16:List TCard)), ?_⟩
 refine⟨rfl, ?_⟩
 refine⟨?_, ?_⟩
 obtain⟨x18,hx19,hm⟩:=bd_some hm
 refine .inl (CallU.mk ⟨_,_,_,_,u_slices_Clone_api_Record_api_Record written _ hx19, ?_⟩)
 refine⟨([r_]:List TRecord).flatMap TRecord.c,([r_]:List TRecord).length,⟨rfl,rfl⟩, ?_⟩
 obtain⟨hg,hm⟩:=gd_some hm
 refine⟨hg,_,_,flat_app (c:=TRecord.c) (l:=(x18:List TRecord)) (r:=(([r_]:List TRecord):List TRecord)), ?_⟩
 cases hm
 exact RetY.le (leD.refl _)
 refine⟨([r_]:List TRecord).flatMap TRecord.c,([r_]:List TRecord).length,⟨rfl,rfl⟩, ?_⟩
 obtain⟨x20,hx21,hm⟩:=bd_some hm
 refine .inl (CallU.mk ⟨_,_,_,_,u_slices_Clone_api_Record_api_Record written _ hx21, ?_⟩)
 obtain⟨hg,hm⟩:=gd_some hm
 refine⟨hg,_,_,flat_app (c:=TRecord.c) (l:=(x20:List TRecord)) (r:=(([r_]:List TRecord):List TRecord)), ?_⟩
 cases hm
 exact RetY.le (leD.refl _)
def m_depot_Write (b_:TBox) (written:(List TRecord)) (r_:TRecord):Option (TBox×(List TRecord)×Int):=
 Option.bind (m_depot_have b_ written) fun x1=>
 if(!x1)=true then
  some ((⟨[], []⟩:TBox), [],84)
 else
  Option.bind (m_depot_write b_ written r_) fun⟨x4,x5,x6⟩=>
  some (x4,x5,x6)
theorem d_depot_Write (b_:TBox) (written:(List TRecord)) (r_:TRecord) (r:(TBox×(List TRecord)×Int)) (hm:m_depot_Write b_ written r_=some r):Does Tryz.prog 23 [.agg (TBox.c b_),lD 8 written TRecord.c, .agg (TRecord.c r_)] (fun x=>x= .tup [.agg (TBox.c r.1),lD 8 r.2.1 TRecord.c,DI r.2.2]):=by
 refine does_zy (X:=⟨Tryz.prog,tt,Tryz.f23.ntmps, [], [], [], [], [], []⟩) pok _ Tryz.func23 rfl rfl (Nat.le_of_ble_eq_true rfl) ?_
 obtain⟨x1,hx2,hm⟩:=bd_some hm
 refine CallY.det (d_depot_have b_ written _ hx2) ?_
 revert hm
 refine VIf.b (fun h3 hm=> ?_) (fun h3 hm=> ?_)
 cases hm
 exact RetY.le (le4)
 obtain⟨⟨x4,x5,x6⟩,hx7,hm⟩:=bd_some hm
 refine CallY.det (d_depot_write b_ written r_ _ hx7) ?_
 cases hm
 exact RetY.le (leD.refl _)
def m_depot_Encode (r_:TRecord):Option (ByteArray×Int):=
 Option.bind (m_depot_isRecord r_) fun x1=>
 if(!x1)=true then
  some ((⟨#[]⟩:ByteArray),80)
 else
  Option.bind (m_depot_encode r_) fun x4=>
  some (x4,0)
theorem d_depot_Encode (r_:TRecord) (r:(ByteArray×Int)) (hm:m_depot_Encode r_=some r):Does Tryz.prog 29 [.agg (TRecord.c r_)] (fun x=>x= .tup [.v (.string r.1),DI r.2]):=by
 refine does_zy (X:=⟨Tryz.prog,tt,Tryz.f29.ntmps, [], [], [], [], [], []⟩) pok _ Tryz.func29 rfl rfl (Nat.le_of_ble_eq_true rfl) ?_
 obtain⟨x1,hx2,hm⟩:=bd_some hm
 refine CallY.det (d_depot_isRecord r_ _ hx2) ?_
 revert hm
 refine VIf.b (fun h3 hm=> ?_) (fun h3 hm=> ?_)
 cases hm
 exact RetY.le (leD.refl _)
 obtain⟨x4,hx5,hm⟩:=bd_some hm
 refine CallY.det (d_depot_encode r_ _ hx5) ?_
 cases hm
 exact RetY.le (leD.refl _)
def m_depot_Cards (r_:TRecord) (no:Int):Option ((List TCard)×Int):=
 Option.bind (m_depot_isRecord r_) fun x1=>
 if(!x1)=true then
  some ([],80)
 else
  Option.bind (m_depot_within no 0 59) fun x4=>
  if(!x4)=true then
   some ([],1)
  else
   Option.bind (m_depot_cards r_ no) fun x7=>
   some (x7,0)
theorem d_depot_Cards (r_:TRecord) (no:Int) (r:((List TCard)×Int)) (hm:m_depot_Cards r_ no=some r):Does Tryz.prog 33 [.agg (TRecord.c r_),DI no] (fun x=>x= .tup [lD 5 r.1 TCard.c,DI r.2]):=by
 refine does_zy (X:=⟨Tryz.prog,tt,Tryz.f33.ntmps, [], [], [], [], [], []⟩) pok _ Tryz.func33 rfl rfl (Nat.le_of_ble_eq_true rfl) ?_
 obtain⟨x1,hx2,hm⟩:=bd_some hm
 refine CallY.det (d_depot_isRecord r_ _ hx2) ?_
 revert hm
 refine VIf.b (fun h3 hm=> ?_) (fun h3 hm=> ?_)
 cases hm
 exact RetY.le (le5)
 obtain⟨x4,hx5,hm⟩:=bd_some hm
 refine CallY.det (d_depot_within no 0 59 _ hx5) ?_
 revert hm
 refine VIf.b (fun h6 hm=> ?_) (fun h6 hm=> ?_)
 cases hm
 exact RetY.le (le5)
 obtain⟨x7,hx8,hm⟩:=bd_some hm
 refine CallY.det (d_depot_cards r_ no _ hx8) ?_
 cases hm
 exact RetY.le (leD.refl _)
def m_L08_sane:Option Bool:=
 Option.bind (m_depot_Encode (⟨(⟨2,0⟩:TItem),5,10,12,(⟨0,0⟩:TItem),(⟨#[97,32,108,97,109,112,32,111,110,32,116,104,101,32,113,117,97,121]⟩:ByteArray)⟩:TRecord)) fun⟨x1,x2⟩=>
 Option.bind (m_depot_Cards (⟨(⟨2,0⟩:TItem),5,10,12,(⟨0,0⟩:TItem),(⟨#[97,32,108,97,109,112,32,111,110,32,116,104,101,32,113,117,97,121]⟩:ByteArray)⟩:TRecord) 3) fun⟨x4,x5⟩=>
 Option.bind (m_depot_Write (⟨[], []⟩:TBox) [] (⟨(⟨2,0⟩:TItem),5,10,12,(⟨0,0⟩:TItem),(⟨#[97,32,108,97,109,112,32,111,110,32,116,104,101,32,113,117,97,121]⟩:ByteArray)⟩:TRecord)) fun⟨x7,x8,x9⟩=>
 Option.bind (m_depot_Fall x7 ([2,0]:List Int)) fun x11=>
 Option.bind (m_depot_Open x11) fun⟨x13,x14⟩=>
 Option.bind (m_depot_Fall x7 ([3,0]:List Int)) fun x16=>
 Option.bind (m_depot_Open x16) fun⟨x18,x19⟩=>
 Option.bind (m_depot_Fall x7 ([2,0,0,0]:List Int)) fun x21=>
 Option.bind (m_depot_Open x21) fun⟨x23,x24⟩=>
 Option.bind (m_depot_Fall x7 ([2,0,1,9]:List Int)) fun x26=>
 Option.bind (m_depot_Open x26) fun⟨x28,x29⟩=>
 Option.bind (m_depot_Bind x7) fun x31=>
 Option.bind (m_depot_Fall x31 ([0,0]:List Int)) fun x33=>
 Option.bind (m_depot_Open x33) fun⟨x35,x36⟩=>
 if(x2==0)=true then
  if(x5==0)=true then
   if(x9==0)=true then
    if((x8.length:Int)==1)=true then
     if((x4.length:Int)==2)=true then
      if((x7.Thread.length:Int)==0)=true then
       if((x7.Loose.length:Int)==2)=true then
        Option.bind (idx x4 0) fun e45=>
        if((e45.No==3)&&((e45.Part==0)&&((e45.Parts==2)&&((e45.Size==24)&&(e45.Text.toList==(⟨#[50,32,48,32,53,32,49,48,32,49,50,32,48,32,48,32,97,32,108,97,109,112,32,111]⟩:ByteArray).toList)))))=true then
         Option.bind (idx x4 1) fun e48=>
         if((e48.No==3)&&((e48.Part==1)&&((e48.Parts==2)&&((e48.Size==10)&&(e48.Text.toList==(⟨#[110,32,116,104,101,32,113,117,97,121]⟩:ByteArray).toList)))))=true then
          if(x1.toList==(⟨#[50,32,48,32,53,32,49,48,32,49,50,32,48,32,48,32,97,32,108,97,109,112,32,111,110,32,116,104,101,32,113,117,97,121]⟩:ByteArray).toList)=true then
           if((x14.length:Int)==1)=true then
            if((x19.length:Int)==1)=true then
             if((x24.length:Int)==0)=true then
              if((x29.length:Int)==0)=true then
               if((x36.length:Int)==1)=true then
                if((x35.Thread.length:Int)==2)=true then
                 some ((x35.Loose.length:Int)==0)
                else
                 some false
               else
                some false
              else
               some false
             else
              some false
            else
             some false
           else
            some false
          else
           some false
         else
          some false
        else
         some false
       else
        some false
      else
       some false
     else
      some false
    else
     some false
   else
    some false
  else
   some false
 else
  some false
theorem d_L08_sane (r:Bool) (hm:m_L08_sane=some r):Does Tryz.prog 14 [] (fun x=>x=DB r):=by
 refine does_zy (X:=⟨Tryz.prog,tt,Tryz.f14.ntmps, [], [], [], [], [], []⟩) pok _ Tryz.func14 rfl rfl (Nat.le_of_ble_eq_true rfl) ?_
 obtain⟨⟨x1,x2⟩,hx3,hm⟩:=bd_some hm
 refine CallY.det (d_depot_Encode ((⟨(⟨2,0⟩:TItem),5,10,12,(⟨0,0⟩:TItem),(⟨#[97,32,108,97,109,112,32,111,110,32,116,104,101,32,113,117,97,121]⟩:ByteArray)⟩:TRecord)) _ hx3) ?_
 obtain⟨⟨x4,x5⟩,hx6,hm⟩:=bd_some hm
 refine CallY.det (d_depot_Cards ((⟨(⟨2,0⟩:TItem),5,10,12,(⟨0,0⟩:TItem),(⟨#[97,32,108,97,109,112,32,111,110,32,116,104,101,32,113,117,97,121]⟩:ByteArray)⟩:TRecord)) 3 _ hx6) ?_
 obtain⟨⟨x7,x8,x9⟩,hx10,hm⟩:=bd_some hm
 refine CallY.det ((d_depot_Write ((⟨[], []⟩:TBox)) [] ((⟨(⟨2,0⟩:TItem),5,10,12,(⟨0,0⟩:TItem),(⟨#[97,32,108,97,109,112,32,111,110,32,116,104,101,32,113,117,97,121]⟩:ByteArray)⟩:TRecord)) _ hx10).le ⟨⟨_,rfl,⟨leD.nil,leD.nil,trivial⟩⟩,leD.nil,leD.refl _,trivial⟩) ?_
 refine⟨([2,0]:List Int).flatMap cI,([2,0]:List Int).length,⟨rfl,rfl⟩, ?_⟩
 obtain⟨x11,hx12,hm⟩:=bd_some hm
 refine CallOwn.det (d_depot_Fall x7 (([2,0]:List Int)) _ hx12) ?_
 obtain⟨⟨x13,x14⟩,hx15,hm⟩:=bd_some hm
 refine CallY.det (d_depot_Open x11 _ hx15) ?_
 refine⟨([3,0]:List Int).flatMap cI,([3,0]:List Int).length,⟨rfl,rfl⟩, ?_⟩
 obtain⟨x16,hx17,hm⟩:=bd_some hm
 refine CallOwn.det (d_depot_Fall x7 (([3,0]:List Int)) _ hx17) ?_
 obtain⟨⟨x18,x19⟩,hx20,hm⟩:=bd_some hm
 refine CallY.det (d_depot_Open x16 _ hx20) ?_
 refine⟨([2,0,0,0]:List Int).flatMap cI,([2,0,0,0]:List Int).length,⟨rfl,rfl⟩, ?_⟩
 obtain⟨x21,hx22,hm⟩:=bd_some hm
 refine CallOwn.det (d_depot_Fall x7 (([2,0,0,0]:List Int)) _ hx22) ?_
 obtain⟨⟨x23,x24⟩,hx25,hm⟩:=bd_some hm
 refine CallY.det (d_depot_Open x21 _ hx25) ?_
 refine⟨([2,0,1,9]:List Int).flatMap cI,([2,0,1,9]:List Int).length,⟨rfl,rfl⟩, ?_⟩
 obtain⟨x26,hx27,hm⟩:=bd_some hm
 refine CallOwn.det (d_depot_Fall x7 (([2,0,1,9]:List Int)) _ hx27) ?_
 obtain⟨⟨x28,x29⟩,hx30,hm⟩:=bd_some hm
 refine CallY.det (d_depot_Open x26 _ hx30) ?_
 obtain⟨x31,hx32,hm⟩:=bd_some hm
 refine CallY.det (d_depot_Bind x7 _ hx32) ?_
 refine⟨([0,0]:List Int).flatMap cI,([0,0]:List Int).length,⟨rfl,rfl⟩, ?_⟩
 obtain⟨x33,hx34,hm⟩:=bd_some hm
 refine CallOwn.det (d_depot_Fall x31 (([0,0]:List Int)) _ hx34) ?_
 obtain⟨⟨x35,x36⟩,hx37,hm⟩:=bd_some hm
 refine CallY.det (d_depot_Open x33 _ hx37) ?_
 revert hm
 refine VIf.b (fun h38 hm=> ?_) (fun h38 hm=> ?_)
 revert hm
 refine VIf.b (fun h39 hm=> ?_) (fun h39 hm=> ?_)
 revert hm
 refine VIf.b (fun h40 hm=> ?_) (fun h40 hm=> ?_)
 revert hm
 refine VIf.b (fun h41 hm=> ?_) (fun h41 hm=> ?_)
 revert hm
 refine VIf.b (fun h42 hm=> ?_) (fun h42 hm=> ?_)
 revert hm
 refine VIf.b (fun h43 hm=> ?_) (fun h43 hm=> ?_)
 revert hm
 refine VIf.b (fun h44 hm=> ?_) (fun h44 hm=> ?_)
 obtain⟨e45,hx46,hm⟩:=bd_some hm
 refine⟨_,el_idx (fun _=>rfl) hx46, ?_⟩
 revert hm
 refine VIf.b (fun h47 hm=> ?_) (fun h47 hm=> ?_)
 obtain⟨e48,hx49,hm⟩:=bd_some hm
 refine⟨_,el_idx (fun _=>rfl) hx49, ?_⟩
 revert hm
 refine VIf.b (fun h50 hm=> ?_) (fun h50 hm=> ?_)
 revert hm
 refine VIf.b (fun h51 hm=> ?_) (fun h51 hm=> ?_)
 revert hm
 refine VIf.b (fun h52 hm=> ?_) (fun h52 hm=> ?_)
 revert hm
 refine VIf.b (fun h53 hm=> ?_) (fun h53 hm=> ?_)
 revert hm
 refine VIf.b (fun h54 hm=> ?_) (fun h54 hm=> ?_)
 revert hm
 refine VIf.b (fun h55 hm=> ?_) (fun h55 hm=> ?_)
 revert hm
 refine VIf.b (fun h56 hm=> ?_) (fun h56 hm=> ?_)
 revert hm
 refine VIf.b (fun h57 hm=> ?_) (fun h57 hm=> ?_)
 cases hm
 exact RetY.le (leD.refl _)
 cases hm
 exact RetY.le (leD.refl _)
 cases hm
 exact RetY.le (leD.refl _)
 cases hm
 exact RetY.le (leD.refl _)
 cases hm
 exact RetY.le (leD.refl _)
 cases hm
 exact RetY.le (leD.refl _)
 cases hm
 exact RetY.le (leD.refl _)
 cases hm
 exact RetY.le (leD.refl _)
 cases hm
 exact RetY.le (leD.refl _)
 cases hm
 exact RetY.le (leD.refl _)
 cases hm
 exact RetY.le (leD.refl _)
 cases hm
 exact RetY.le (leD.refl _)
 cases hm
 exact RetY.le (leD.refl _)
 cases hm
 exact RetY.le (leD.refl _)
 cases hm
 exact RetY.le (leD.refl _)
 cases hm
 exact RetY.le (leD.refl _)
 cases hm
 exact RetY.le (leD.refl _)
def m_R08_many_L1 (l:(List TRecord)):(Int×Int×Int×Int×Int×Int×Int)→Option (Sum (Int×Int×Int×Int×Int×Int×Int) (Int×Int×Int×Int×Int×Int×Int)):=fun(i15,v16,v17,v18,v19,v20,v21)=>
 if(decide (i15<(l.length:Int)))=true then
  Option.bind (idx l i15) fun e37=>
  gd (0≤e37.At.Depot∧e37.At.Depot<6)<|
  Option.bind (idx [v16,v17,v18,v19,v20,v21] e37.At.Depot) fun e39=>
  gd (0≤e37.At.Depot∧e37.At.Depot<6)<|
  Option.bind (idx [v16,v17,v18,v19,v20,v21] e37.At.Depot) fun e41=>
  Option.bind (some (W (e39+1))) fun y43=>
  Option.bind (some (if(e37.At.Depot==0)=true then y43 else v16)) fun q44=>
  Option.bind (some (if(e37.At.Depot==1)=true then y43 else v17)) fun q45=>
  Option.bind (some (if(e37.At.Depot==2)=true then y43 else v18)) fun q46=>
  Option.bind (some (if(e37.At.Depot==3)=true then y43 else v19)) fun q47=>
  Option.bind (some (if(e37.At.Depot==4)=true then y43 else v20)) fun q48=>
  Option.bind (some (if(e37.At.Depot==5)=true then y43 else v21)) fun q49=>
  some (.inl ((W (i15+1)),q44,q45,q46,q47,q48,q49))
 else
  some (.inr (i15,v16,v17,v18,v19,v20,v21))
def m_R08_many (l:(List TRecord)):Option (Int×Int×Int×Int×Int×Int):=
 Option.bind (loopF (m_R08_many_L1 l) (0,0,0,0,0,0,0)) fun(i50,v51,v52,v53,v54,v55,v56)=>
 some (v51,v52,v53,v54,v55,v56)
theorem d_R08_many (l:(List TRecord)) (r:(Int×Int×Int×Int×Int×Int)) (hm:m_R08_many l=some r):Does Tryz.prog 89 [lD 8 l TRecord.c] (fun x=>x= .agg [DI r.1,DI r.2.1,DI r.2.2.1,DI r.2.2.2.1,DI r.2.2.2.2.1,DI r.2.2.2.2.2]):=by
 refine does_zy (X:=⟨Tryz.prog,tt,Tryz.f89.ntmps, [], [], [], [], [], []⟩) pok _ Tryz.func89 rfl rfl (Nat.le_of_ble_eq_true rfl) ?_
 obtain⟨ev57,he,hk58⟩:=bd_some hm
 refine LoopY.ofL (m_R08_many_L1 l) (fun(i15,v16,v17,v18,v19,v20,v21)=>⟨[(0,lD 8 l TRecord.c),(2, .own 0 0),(3, .own 1 0),(4,DI i15)], [(0, .blk [DI 0,DI 0,DI 0,DI 0,DI 0,DI 0] 78),(1, .blk [DI v16,DI v17,DI v18,DI v19,DI v20,DI v21] 78)],2⟩) (0,0,0,0,0,0,0) (SubY.of 2 rfl ⟨tR rfl,tR rfl,tR rfl,tR rfl,trivial⟩ ⟨hR rfl,hR rfl,trivial⟩) he ?_
 rintro fu59 ⟨i15,v16,v17,v18,v19,v20,v21⟩ b hm hi60
 revert hm
 refine VIf.b (fun h61 hm=> ?_) (fun h61 hm=> ?_)
 obtain⟨e62,hx63,hm⟩:=bd_some hm
 refine⟨_,el_idx (fun _=>rfl) hx63, ?_⟩
 obtain⟨hg,hm⟩:=gd_some hm
 refine⟨hg, ?_⟩
 obtain⟨e64,hx65,hm⟩:=bd_some hm
 refine⟨_,ldx (r:= [DI e64]) (c:=cI) (z:=1) (pre:= []) (post:= []) (b:=0) (off:=0) (fun _=>rfl) hx65 rfl rfl (by omega) rfl, ?_⟩
 obtain⟨hg,hm⟩:=gd_some hm
 refine⟨hg, ?_⟩
 obtain⟨e66,hx67,hm⟩:=bd_some hm
 obtain⟨y68,hy,hm⟩:=bd_some hm
 obtain⟨q69,hq0,hm⟩:=bd_some hm
 obtain⟨q70,hq1,hm⟩:=bd_some hm
 obtain⟨q71,hq2,hm⟩:=bd_some hm
 obtain⟨q72,hq3,hm⟩:=bd_some hm
 obtain⟨q73,hq4,hm⟩:=bd_some hm
 obtain⟨q74,hq5,hm⟩:=bd_some hm
 refine⟨[DI q69,DI q70,DI q71,DI q72,DI q73,DI q74],stx (y:=y68) (ys:= [q69,q70,q71,q72,q73,q74]) (c:=cI) (z:=1) (pre:= []) (post:= []) (b:=0) (off:=0) (fun _=>rfl) hx67 rfl rfl (by omega) (by cases hy;rfl) rfl (by cases hq0;cases hq1;cases hq2;cases hq3;cases hq4;cases hq5;exact selL_set hx67), ?_⟩
 clear hy hq0 hq1 hq2 hq3 hq4 hq5
 cases hm
 exact⟨(_,((W (i15+1)),q69,q70,q71,q72,q73,q74)),SubY.of 2 rfl ⟨tR rfl,tR rfl,tR rfl,tR rfl,trivial⟩ ⟨hR rfl,hR rfl,trivial⟩,hi60,Nat.lt_succ_self _⟩
 cases hm
 cases hi60
 have hm:=hk58
 cases hm
 exact RetY.le (leD.refl _)
def m_R08_SameRecords_L1 (a:(List TRecord)) (b_:(List TRecord)):(Bool×Int)→Option (Sum (Bool×Int) (Bool×Int)):=fun(same7,i8)=>
 if(decide (i8<(a.length:Int)))=true then
  if same7=true then
   Option.bind (idx a i8) fun e17=>
   Option.bind (idx b_ i8) fun e19=>
   some (.inl (((e17.At.Depot==e19.At.Depot)&&((e17.At.No==e19.At.No)&&((e17.Kind==e19.Kind)&&((e17.Day==e19.Day)&&((e17.Known==e19.Known)&&((e17.Of.Depot==e19.Of.Depot)&&((e17.Of.No==e19.Of.No)&&(e17.Text.toList==e19.Text.toList)))))))),(W (i8+1))))
  else
   some (.inr (same7,i8))
 else
  some (.inr (same7,i8))
def m_R08_SameRecords (a:(List TRecord)) (b_:(List TRecord)):Option Bool:=
 Option.bind (loopF (m_R08_SameRecords_L1 a b_) (((a.length:Int)==(b_.length:Int)),0)) fun(same21,i22)=>
 some same21
theorem d_R08_SameRecords (a:(List TRecord)) (b_:(List TRecord)) (r:Bool) (hm:m_R08_SameRecords a b_=some r):Does Tryz.prog 18 [lD 8 a TRecord.c,lD 8 b_ TRecord.c] (fun x=>x=DB r):=by
 refine does_zy (X:=⟨Tryz.prog,tt,Tryz.f18.ntmps,pl18, [], [], [], [], []⟩) pok _ Tryz.func18 rfl rfl (Nat.le_of_ble_eq_true rfl) ?_
 obtain⟨ev23,he,hk24⟩:=bd_some hm
 refine LoopY.ofL (m_R08_SameRecords_L1 a b_) (fun(same7,i8)=>⟨[(0,lD 8 a TRecord.c),(1,lD 8 b_ TRecord.c),(5,DB same7),(6,DI i8)], [],0⟩) (((a.length:Int)==(b_.length:Int)),0) (SubY.of 0 rfl ⟨tR rfl,tR rfl,tR rfl,tR rfl,trivial⟩ trivial) he ?_
 rintro fu25 ⟨same7,i8⟩ b hm hi26
 revert hm
 refine VIf.b (fun h27 hm=> ?_) (fun h27 hm=> ?_)
 revert hm
 refine VIf.b (fun h28 hm=> ?_) (fun h28 hm=> ?_)
 refine⟨rfl, ?_⟩
 obtain⟨e29,hx30,hm⟩:=bd_some hm
 refine⟨_,el_idx (fun _=>rfl) hx30, ?_⟩
 obtain⟨e31,hx32,hm⟩:=bd_some hm
 refine⟨_,el_idx (fun _=>rfl) hx32, ?_⟩
 cases hm
 exact⟨(_,(((e29.At.Depot==e31.At.Depot)&&((e29.At.No==e31.At.No)&&((e29.Kind==e31.Kind)&&((e29.Day==e31.Day)&&((e29.Known==e31.Known)&&((e29.Of.Depot==e31.Of.Depot)&&((e29.Of.No==e31.Of.No)&&(e29.Text.toList==e31.Text.toList)))))))),(W (i8+1)))),SubY.of 0 rfl ⟨tR rfl,tR rfl,tR rfl,tR rfl,trivial⟩ trivial,hi26,Nat.lt_succ_self _⟩
 cases hm
 cases hi26
 have hm:=hk24
 cases hm
 exact RetY.le (leD.refl _)
 cases hm
 cases hi26
 have hm:=hk24
 cases hm
 exact RetY.le (leD.refl _)
def m_R08_Mod (n:Int) (m:Int):Option Int:=
 gd (m≠0)<|
 gd (m≠0)<|
 some ((W ((n.tmod m)+m)).tmod m)
theorem d_R08_Mod (n:Int) (m:Int) (r:Int) (hm:m_R08_Mod n m=some r):Does Tryz.prog 27 [DI n,DI m] (fun x=>x=DI r):=by
 refine does_zy (X:=⟨Tryz.prog,tt,Tryz.f27.ntmps, [], [], [], [], [], []⟩) pok _ Tryz.func27 rfl rfl (Nat.le_of_ble_eq_true rfl) ?_
 obtain⟨hg,hm⟩:=gd_some hm
 refine⟨hg, ?_⟩
 obtain⟨hg,hm⟩:=gd_some hm
 refine⟨hg, ?_⟩
 cases hm
 exact RetY.le (leD.refl _)
def m_depot_CheckBox (b_:TBox) (written:(List TRecord)):Option Int:=
 Option.bind (m_depot_have b_ written) fun x1=>
 if(!x1)=true then
  some 84
 else
  some 0
theorem d_depot_CheckBox (b_:TBox) (written:(List TRecord)) (r:Int) (hm:m_depot_CheckBox b_ written=some r):Does Tryz.prog 25 [.agg (TBox.c b_),lD 8 written TRecord.c] (fun x=>x=DI r):=by
 refine does_zy (X:=⟨Tryz.prog,tt,Tryz.f25.ntmps, [], [], [], [], [], []⟩) pok _ Tryz.func25 rfl rfl (Nat.le_of_ble_eq_true rfl) ?_
 obtain⟨x1,hx2,hm⟩:=bd_some hm
 refine CallY.det (d_depot_have b_ written _ hx2) ?_
 revert hm
 refine VIf.b (fun h3 hm=> ?_) (fun h3 hm=> ?_)
 cases hm
 exact RetY.le (leD.refl _)
 cases hm
 exact RetY.le (leD.refl _)
def m_R08_texts (n:Int):Option ByteArray:=
 Option.bind (m_R08_Mod n 6) fun x1=>
 Option.bind (idx ([(⟨#[]⟩:ByteArray),(⟨#[97]⟩:ByteArray),(⟨#[97,32,108,97,109,112,32,111,110,32,116,104,101,32,113,117,97,121]⟩:ByteArray),(⟨#[48,32,48,32,49,32,48,32,48,32,48]⟩:ByteArray),(⟨#[32]⟩:ByteArray),(⟨#[97,32,116,101,120,116,32,111,102,32,97,32,108,101,110,103,116,104,32,116,104,97,116,32,116,97,107,101,115,32,109,97,110,121,32,99,97,114,100,115,44,32,111,110,101,32,98,101,104,105,110,100,32,116,104,101,32,111,116,104,101,114,44,32,117,112,32,116,111,32,105,116,115,32,101,110,100]⟩:ByteArray)]:List ByteArray) x1) fun e3=>
 Option.bind (idx ([(⟨#[]⟩:ByteArray),(⟨#[97]⟩:ByteArray),(⟨#[97,32,108,97,109,112,32,111,110,32,116,104,101,32,113,117,97,121]⟩:ByteArray),(⟨#[48,32,48,32,49,32,48,32,48,32,48]⟩:ByteArray),(⟨#[32]⟩:ByteArray),(⟨#[97,32,116,101,120,116,32,111,102,32,97,32,108,101,110,103,116,104,32,116,104,97,116,32,116,97,107,101,115,32,109,97,110,121,32,99,97,114,100,115,44,32,111,110,101,32,98,101,104,105,110,100,32,116,104,101,32,111,116,104,101,114,44,32,117,112,32,116,111,32,105,116,115,32,101,110,100]⟩:ByteArray)]:List ByteArray) x1) fun e5=>
 some e5
theorem d_R08_texts (n:Int) (r:ByteArray) (hm:m_R08_texts n=some r):Does Tryz.prog 90 [DI n] (fun x=>x= .v (.string r)):=by
 refine does_zy (X:=⟨Tryz.prog,tt,Tryz.f90.ntmps, [], [], [], [], [], []⟩) pok _ Tryz.func90 rfl rfl (Nat.le_of_ble_eq_true rfl) ?_
 refine⟨([(⟨#[]⟩:ByteArray),(⟨#[97]⟩:ByteArray),(⟨#[97,32,108,97,109,112,32,111,110,32,116,104,101,32,113,117,97,121]⟩:ByteArray),(⟨#[48,32,48,32,49,32,48,32,48,32,48]⟩:ByteArray),(⟨#[32]⟩:ByteArray),(⟨#[97,32,116,101,120,116,32,111,102,32,97,32,108,101,110,103,116,104,32,116,104,97,116,32,116,97,107,101,115,32,109,97,110,121,32,99,97,114,100,115,44,32,111,110,101,32,98,101,104,105,110,100,32,116,104,101,32,111,116,104,101,114,44,32,117,112,32,116,111,32,105,116,115,32,101,110,100]⟩:ByteArray)]:List ByteArray).flatMap (fun(x:ByteArray)=> [.v (.string x)]),([(⟨#[]⟩:ByteArray),(⟨#[97]⟩:ByteArray),(⟨#[97,32,108,97,109,112,32,111,110,32,116,104,101,32,113,117,97,121]⟩:ByteArray),(⟨#[48,32,48,32,49,32,48,32,48,32,48]⟩:ByteArray),(⟨#[32]⟩:ByteArray),(⟨#[97,32,116,101,120,116,32,111,102,32,97,32,108,101,110,103,116,104,32,116,104,97,116,32,116,97,107,101,115,32,109,97,110,121,32,99,97,114,100,115,44,32,111,110,101,32,98,101,104,105,110,100,32,116,104,101,32,111,116,104,101,114,44,32,117,112,32,116,111,32,105,116,115,32,101,110,100]⟩:ByteArray)]:List ByteArray).length,⟨rfl,rfl⟩, ?_⟩
 obtain⟨x1,hx2,hm⟩:=bd_some hm
 refine CallY.det (d_R08_Mod n 6 _ hx2) ?_
 obtain⟨e3,hx4,hm⟩:=bd_some hm
 refine⟨idx_bd hx4, ?_⟩
 obtain⟨e5,hx6,hm⟩:=bd_some hm
 refine⟨_,el_row (fun _=>rfl) hx6, ?_⟩
 cases hm
 exact RetY.le (leD.refl _)
def m_R08_Next (l:(List TRecord)) (n:(Int×Int×Int×Int×Int)):Option TRecord:=
 Option.bind (m_R08_Mod n.1 3) fun x1=>
 Option.bind (m_R08_many l) fun x3=>
 Option.bind (idx [x3.1,x3.2.1,x3.2.2.1,x3.2.2.2.1,x3.2.2.2.2.1,x3.2.2.2.2.2] x1) fun e5=>
 Option.bind (m_R08_Mod n.2.1 6) fun x7=>
 Option.bind (m_R08_Mod n.2.2.1 50) fun x9=>
 Option.bind (m_R08_Mod n.2.2.2.1 50) fun x11=>
 if(x7==0)=true then
  if(decide (e5>0))=true then
   Option.bind (m_R08_Mod n.2.2.1 e5) fun x15=>
   some (⟨(⟨x1,e5⟩:TItem),x7,0,x11,(⟨x1,x15⟩:TItem),(⟨#[]⟩:ByteArray)⟩:TRecord)
  else
   Option.bind (m_R08_texts n.2.2.2.2) fun x17=>
   some (⟨(⟨x1,e5⟩:TItem),7,x9,x11,(⟨0,0⟩:TItem),x17⟩:TRecord)
 else
  Option.bind (m_R08_texts n.2.2.2.2) fun x19=>
  some (⟨(⟨x1,e5⟩:TItem),x7,x9,x11,(⟨0,0⟩:TItem),x19⟩:TRecord)
theorem d_R08_Next (l:(List TRecord)) (n:(Int×Int×Int×Int×Int)) (r:TRecord) (hm:m_R08_Next l n=some r):Does Tryz.prog 28 [lD 8 l TRecord.c, .agg [DI n.1,DI n.2.1,DI n.2.2.1,DI n.2.2.2.1,DI n.2.2.2.2]] (fun x=>x= .agg (TRecord.c r)):=by
 refine does_zy (X:=⟨Tryz.prog,tt,Tryz.f28.ntmps,pl28, [], [], [], [], []⟩) pok _ Tryz.func28 rfl rfl (Nat.le_of_ble_eq_true rfl) ?_
 refine⟨by decide, ?_⟩
 obtain⟨x1,hx2,hm⟩:=bd_some hm
 refine CallY.det (d_R08_Mod n.1 3 _ hx2) ?_
 refine⟨rfl, ?_⟩
 refine⟨by decide, ?_⟩
 refine⟨by decide, ?_⟩
 refine⟨by decide, ?_⟩
 obtain⟨x3,hx4,hm⟩:=bd_some hm
 refine CallY.det (d_R08_many l _ hx4) ?_
 obtain⟨e5,hx6,hm⟩:=bd_some hm
 refine⟨idx_bd hx6,_,ldx (c:=cI) (z:=1) (pre:= []) (post:= []) (b:=0) (off:=0) (fun _=>rfl) hx6 rfl rfl (by omega) rfl, ?_⟩
 obtain⟨x7,hx8,hm⟩:=bd_some hm
 refine CallY.det (d_R08_Mod n.2.1 6 _ hx8) ?_
 obtain⟨x9,hx10,hm⟩:=bd_some hm
 refine CallY.det (d_R08_Mod n.2.2.1 50 _ hx10) ?_
 obtain⟨x11,hx12,hm⟩:=bd_some hm
 refine CallY.det (d_R08_Mod n.2.2.2.1 50 _ hx12) ?_
 revert hm
 refine VIf.b (fun h13 hm=> ?_) (fun h13 hm=> ?_)
 revert hm
 refine VIf.b (fun h14 hm=> ?_) (fun h14 hm=> ?_)
 refine⟨by decide, ?_⟩
 obtain⟨x15,hx16,hm⟩:=bd_some hm
 refine CallY.det (d_R08_Mod n.2.2.1 e5 _ hx16) ?_
 cases hm
 exact RetY.le (leD.refl _)
 refine VIf.t h13 ?_
 refine⟨by decide, ?_⟩
 obtain⟨x17,hx18,hm⟩:=bd_some hm
 refine CallY.det (d_R08_texts n.2.2.2.2 _ hx18) ?_
 cases hm
 exact RetY.le (leD.refl _)
 refine VIf.f h13 ?_
 refine⟨by decide, ?_⟩
 obtain⟨x19,hx20,hm⟩:=bd_some hm
 refine CallY.det (d_R08_texts n.2.2.2.2 _ hx20) ?_
 cases hm
 exact RetY.le (leD.refl _)
def m_L08_DepotFall_L1 (l:(List TDeed)) (picks:(List Int)):(Int×(List TCard)×(List TCard)×(List TRecord)×Int)→Option (Sum (Int×(List TCard)×(List TCard)×(List TRecord)×Int) (Sum (Int×(List TCard)×(List TCard)×(List TRecord)×Int) Bool)):=fun(i99,v121,v122,written120,firm103)=>
 if(decide (i99≤(l.length:Int)))=true then
  if(decide (i99≤12))=true then
   if(decide (i99<(l.length:Int)))=true then
    if(decide (i99<12))=true then
     Option.bind (idx l i99) fun e277=>
     Option.bind (m_R08_Mod e277.Kind 7) fun x279=>
     if(x279==4)=true then
      Option.bind (m_depot_Bind (⟨v121,v122⟩:TBox)) fun x282=>
      some (.inl ((W (i99+1)),x282.Thread,x282.Loose,written120,(written120.length:Int)))
     else
      if(x279==5)=true then
       Option.bind (m_depot_Fall (⟨v121,v122⟩:TBox) e277.Picks) fun x285=>
       Option.bind (m_depot_Open x285) fun⟨x287,x288⟩=>
       if(decide ((x288.length:Int)<firm103))=true then
        some (.inr (.inr false))
       else
        if(decide ((x288.length:Int)>(written120.length:Int)))=true then
         some (.inr (.inr false))
        else
         Option.bind (m_depot_CheckBox x287 x288) fun x292=>
         if(x292 !=0)=true then
          some (.inr (.inr false))
         else
          if((x287.Loose.length:Int) !=0)=true then
           some (.inr (.inr false))
          else
           gd ((0≤(x288.length:Int)∧(x288.length:Int)≤(written120.length:Int))∧(0≤(x288.length:Int)∧(x288.length:Int)≤(x288.length:Int)))<|
           Option.bind (some (sub written120 0 ((x288.length:Int)).toNat)) fun sl296=>
           Option.bind (m_R08_SameRecords x288 sl296) fun x297=>
           if(!x297)=true then
            some (.inr (.inr false))
           else
            gd ((([]:List TRecord).length+x288.length)*72≤140737488355328∧([]:List TRecord).length+x288.length≤9223372036854775807)<|
            some (.inl ((W (i99+1)),x287.Thread,x287.Loose,(([]:List TRecord)++x288),(x288.length:Int)))
      else
       if(x279==6)=true then
        Option.bind (m_depot_Fall (⟨v121,v122⟩:TBox) e277.Picks) fun x301=>
        Option.bind (m_depot_Open x301) fun⟨x303,x304⟩=>
        if(decide ((x304.length:Int)<firm103))=true then
         some (.inr (.inr false))
        else
         if(decide ((x304.length:Int)>(written120.length:Int)))=true then
          some (.inr (.inr false))
         else
          Option.bind (m_depot_CheckBox x303 x304) fun x308=>
          if(x308 !=0)=true then
           some (.inr (.inr false))
          else
           if((x303.Loose.length:Int) !=0)=true then
            some (.inr (.inr false))
           else
            gd ((0≤(x304.length:Int)∧(x304.length:Int)≤(written120.length:Int))∧(0≤(x304.length:Int)∧(x304.length:Int)≤(x304.length:Int)))<|
            Option.bind (some (sub written120 0 ((x304.length:Int)).toNat)) fun sl312=>
            Option.bind (m_R08_SameRecords x304 sl312) fun x313=>
            if(!x313)=true then
             some (.inr (.inr false))
            else
             gd ((([]:List TRecord).length+x304.length)*72≤140737488355328∧([]:List TRecord).length+x304.length≤9223372036854775807)<|
             some (.inl ((W (i99+1)),x303.Thread,x303.Loose,(([]:List TRecord)++x304),(x304.length:Int)))
       else
        Option.bind (m_R08_Next written120 e277.Record) fun x316=>
        Option.bind (m_depot_Write (⟨v121,v122⟩:TBox) written120 x316) fun⟨x318,x319,x320⟩=>
        if(x320 !=0)=true then
         some (.inr (.inr false))
        else
         if((x319.length:Int) !=(W ((written120.length:Int)+1)))=true then
          some (.inr (.inr false))
         else
          Option.bind (m_depot_CheckBox x318 x319) fun x324=>
          if(x324 !=0)=true then
           some (.inr (.inr false))
          else
           some (.inl ((W (i99+1)),x318.Thread,x318.Loose,x319,firm103))
    else
     Option.bind (m_R08_Mod 5 7) fun x327=>
     if(x327==4)=true then
      Option.bind (m_depot_Bind (⟨v121,v122⟩:TBox)) fun x330=>
      some (.inl ((W (i99+1)),x330.Thread,x330.Loose,written120,(written120.length:Int)))
     else
      if(x327==5)=true then
       Option.bind (m_depot_Fall (⟨v121,v122⟩:TBox) picks) fun x333=>
       Option.bind (m_depot_Open x333) fun⟨x335,x336⟩=>
       if(decide ((x336.length:Int)<firm103))=true then
        some (.inr (.inr false))
       else
        if(decide ((x336.length:Int)>(written120.length:Int)))=true then
         some (.inr (.inr false))
        else
         Option.bind (m_depot_CheckBox x335 x336) fun x340=>
         if(x340 !=0)=true then
          some (.inr (.inr false))
         else
          if((x335.Loose.length:Int) !=0)=true then
           some (.inr (.inr false))
          else
           gd ((0≤(x336.length:Int)∧(x336.length:Int)≤(written120.length:Int))∧(0≤(x336.length:Int)∧(x336.length:Int)≤(x336.length:Int)))<|
           Option.bind (some (sub written120 0 ((x336.length:Int)).toNat)) fun sl344=>
           Option.bind (m_R08_SameRecords x336 sl344) fun x345=>
           if(!x345)=true then
            some (.inr (.inr false))
           else
            gd ((([]:List TRecord).length+x336.length)*72≤140737488355328∧([]:List TRecord).length+x336.length≤9223372036854775807)<|
            some (.inl ((W (i99+1)),x335.Thread,x335.Loose,(([]:List TRecord)++x336),(x336.length:Int)))
      else
       if(x327==6)=true then
        Option.bind (m_depot_Fall (⟨v121,v122⟩:TBox) picks) fun x349=>
        Option.bind (m_depot_Open x349) fun⟨x351,x352⟩=>
        if(decide ((x352.length:Int)<firm103))=true then
         some (.inr (.inr false))
        else
         if(decide ((x352.length:Int)>(written120.length:Int)))=true then
          some (.inr (.inr false))
         else
          Option.bind (m_depot_CheckBox x351 x352) fun x356=>
          if(x356 !=0)=true then
           some (.inr (.inr false))
          else
           if((x351.Loose.length:Int) !=0)=true then
            some (.inr (.inr false))
           else
            gd ((0≤(x352.length:Int)∧(x352.length:Int)≤(written120.length:Int))∧(0≤(x352.length:Int)∧(x352.length:Int)≤(x352.length:Int)))<|
            Option.bind (some (sub written120 0 ((x352.length:Int)).toNat)) fun sl360=>
            Option.bind (m_R08_SameRecords x352 sl360) fun x361=>
            if(!x361)=true then
             some (.inr (.inr false))
            else
             gd ((([]:List TRecord).length+x352.length)*72≤140737488355328∧([]:List TRecord).length+x352.length≤9223372036854775807)<|
             some (.inl ((W (i99+1)),x351.Thread,x351.Loose,(([]:List TRecord)++x352),(x352.length:Int)))
       else
        Option.bind (m_R08_Next written120 (0,0,0,0,0)) fun x364=>
        Option.bind (m_depot_Write (⟨v121,v122⟩:TBox) written120 x364) fun⟨x366,x367,x368⟩=>
        if(x368 !=0)=true then
         some (.inr (.inr false))
        else
         if((x367.length:Int) !=(W ((written120.length:Int)+1)))=true then
          some (.inr (.inr false))
         else
          Option.bind (m_depot_CheckBox x366 x367) fun x372=>
          if(x372 !=0)=true then
           some (.inr (.inr false))
          else
           some (.inl ((W (i99+1)),x366.Thread,x366.Loose,x367,firm103))
   else
    Option.bind (m_R08_Mod 5 7) fun x375=>
    if(x375==4)=true then
     Option.bind (m_depot_Bind (⟨v121,v122⟩:TBox)) fun x378=>
     some (.inl ((W (i99+1)),x378.Thread,x378.Loose,written120,(written120.length:Int)))
    else
     if(x375==5)=true then
      Option.bind (m_depot_Fall (⟨v121,v122⟩:TBox) picks) fun x381=>
      Option.bind (m_depot_Open x381) fun⟨x383,x384⟩=>
      if(decide ((x384.length:Int)<firm103))=true then
       some (.inr (.inr false))
      else
       if(decide ((x384.length:Int)>(written120.length:Int)))=true then
        some (.inr (.inr false))
       else
        Option.bind (m_depot_CheckBox x383 x384) fun x388=>
        if(x388 !=0)=true then
         some (.inr (.inr false))
        else
         if((x383.Loose.length:Int) !=0)=true then
          some (.inr (.inr false))
         else
          gd ((0≤(x384.length:Int)∧(x384.length:Int)≤(written120.length:Int))∧(0≤(x384.length:Int)∧(x384.length:Int)≤(x384.length:Int)))<|
          Option.bind (some (sub written120 0 ((x384.length:Int)).toNat)) fun sl392=>
          Option.bind (m_R08_SameRecords x384 sl392) fun x393=>
          if(!x393)=true then
           some (.inr (.inr false))
          else
           gd ((([]:List TRecord).length+x384.length)*72≤140737488355328∧([]:List TRecord).length+x384.length≤9223372036854775807)<|
           some (.inl ((W (i99+1)),x383.Thread,x383.Loose,(([]:List TRecord)++x384),(x384.length:Int)))
     else
      if(x375==6)=true then
       Option.bind (m_depot_Fall (⟨v121,v122⟩:TBox) picks) fun x397=>
       Option.bind (m_depot_Open x397) fun⟨x399,x400⟩=>
       if(decide ((x400.length:Int)<firm103))=true then
        some (.inr (.inr false))
       else
        if(decide ((x400.length:Int)>(written120.length:Int)))=true then
         some (.inr (.inr false))
        else
         Option.bind (m_depot_CheckBox x399 x400) fun x404=>
         if(x404 !=0)=true then
          some (.inr (.inr false))
         else
          if((x399.Loose.length:Int) !=0)=true then
           some (.inr (.inr false))
          else
           gd ((0≤(x400.length:Int)∧(x400.length:Int)≤(written120.length:Int))∧(0≤(x400.length:Int)∧(x400.length:Int)≤(x400.length:Int)))<|
           Option.bind (some (sub written120 0 ((x400.length:Int)).toNat)) fun sl408=>
           Option.bind (m_R08_SameRecords x400 sl408) fun x409=>
           if(!x409)=true then
            some (.inr (.inr false))
           else
            gd ((([]:List TRecord).length+x400.length)*72≤140737488355328∧([]:List TRecord).length+x400.length≤9223372036854775807)<|
            some (.inl ((W (i99+1)),x399.Thread,x399.Loose,(([]:List TRecord)++x400),(x400.length:Int)))
      else
       Option.bind (m_R08_Next written120 (0,0,0,0,0)) fun x412=>
       Option.bind (m_depot_Write (⟨v121,v122⟩:TBox) written120 x412) fun⟨x414,x415,x416⟩=>
       if(x416 !=0)=true then
        some (.inr (.inr false))
       else
        if((x415.length:Int) !=(W ((written120.length:Int)+1)))=true then
         some (.inr (.inr false))
        else
         Option.bind (m_depot_CheckBox x414 x415) fun x420=>
         if(x420 !=0)=true then
          some (.inr (.inr false))
         else
          some (.inl ((W (i99+1)),x414.Thread,x414.Loose,x415,firm103))
  else
   some (.inr (.inl (i99,v121,v122,written120,firm103)))
 else
  some (.inr (.inl (i99,v121,v122,written120,firm103)))
def m_L08_DepotFall (l:(List TDeed)) (picks:(List Int)):Option Bool:=
 Option.bind (m_L08_sane) fun x1=>
 Option.bind (loopF (m_L08_DepotFall_L1 l picks) (0, [], [], [],0)) fun e=>
 match e with
 | .inl (i423,v424,v425,written426,firm427)=>
  some x1
 | .inr rr428=>
  some rr428
theorem d_L08_DepotFall (l:(List TDeed)) (picks:(List Int)) (r:Bool) (hm:m_L08_DepotFall l picks=some r):Does Tryz.prog 5 [lD 7 l TDeed.c,lD 1 picks cI] (fun x=>x=DB r):=by
 refine does_zy (X:=⟨Tryz.prog,tt,Tryz.f5.ntmps,pl5, [], [], [], [], []⟩) pok _ Tryz.func5 rfl rfl (Nat.le_of_ble_eq_true rfl) ?_
 obtain⟨x1,hx2,hm⟩:=bd_some hm
 refine CallY.det (d_L08_sane _ hx2) ?_
 obtain⟨ev429,he,hk430⟩:=bd_some hm
 refine LoopY.ofL (m_L08_DepotFall_L1 l picks) (fun(i99,v121,v122,written120,firm103)=>⟨[(0,lD 7 l TDeed.c),(1,lD 1 picks cI),(5,DB x1),(6, .own 0 0),(7,lD 8 written120 TRecord.c),(8,DI firm103),(9,DI i99)], [(0, .blk [lD 5 v121 TCard.c,lD 5 v122 TCard.c] 24)],1⟩) (0, [], [], [],0) (SubY.of 1 rfl ⟨tR rfl,tR rfl,tR rfl,tR rfl,⟨_,rfl,leD.nil⟩,tR rfl,tR rfl,trivial⟩ ⟨⟨_,rfl,⟨leD.nil,leD.nil,trivial⟩⟩,trivial⟩) he ?_
 rintro fu431 ⟨i99,v121,v122,written120,firm103⟩ b hm hi432
 revert hm
 refine VIf.b (fun h433 hm=> ?_) (fun h433 hm=> ?_)
 revert hm
 refine VIf.b (fun h434 hm=> ?_) (fun h434 hm=> ?_)
 revert hm
 refine VIf.b (fun h435 hm=> ?_) (fun h435 hm=> ?_)
 revert hm
 refine VIf.b (fun h436 hm=> ?_) (fun h436 hm=> ?_)
 obtain⟨e437,hx438,hm⟩:=bd_some hm
 refine⟨_,el_idx (fun _=>rfl) hx438, ?_⟩
 obtain⟨x439,hx440,hm⟩:=bd_some hm
 refine CallY.det (d_R08_Mod e437.Kind 7 _ hx440) ?_
 revert hm
 refine VIf.b (fun h441 hm=> ?_) (fun h441 hm=> ?_)
 obtain⟨x442,hx443,hm⟩:=bd_some hm
 refine CallY.det (d_depot_Bind ((⟨v121,v122⟩:TBox)) _ hx443) ?_
 cases hm
 exact⟨(_,((W (i99+1)),x442.Thread,x442.Loose,written120,(written120.length:Int))),SubY.of 1 rfl ⟨tR rfl,tR rfl,tR rfl,tR rfl,tR rfl,tR rfl,tR rfl,trivial⟩ ⟨hR rfl,trivial⟩,hi432,Nat.lt_succ_self _⟩
 revert hm
 refine VIf.b (fun h444 hm=> ?_) (fun h444 hm=> ?_)
 refine VIf.t h444 ?_
 obtain⟨x445,hx446,hm⟩:=bd_some hm
 refine CallY.det (d_depot_Fall ((⟨v121,v122⟩:TBox)) e437.Picks _ hx446) ?_
 obtain⟨⟨x447,x448⟩,hx449,hm⟩:=bd_some hm
 refine CallY.det (d_depot_Open x445 _ hx449) ?_
 revert hm
 refine VIf.b (fun h450 hm=> ?_) (fun h450 hm=> ?_)
 cases hm
 cases hi432
 have hm:=hk430
 cases hm
 exact RetY.le (leD.refl _)
 revert hm
 refine VIf.b (fun h451 hm=> ?_) (fun h451 hm=> ?_)
 cases hm
 cases hi432
 have hm:=hk430
 cases hm
 exact RetY.le (leD.refl _)
 obtain⟨x452,hx453,hm⟩:=bd_some hm
 refine CallY.det (d_depot_CheckBox x447 x448 _ hx453) ?_
 revert hm
 refine VIf.b (fun h454 hm=> ?_) (fun h454 hm=> ?_)
 cases hm
 cases hi432
 have hm:=hk430
 cases hm
 exact RetY.le (leD.refl _)
 revert hm
 refine VIf.b (fun h455 hm=> ?_) (fun h455 hm=> ?_)
 cases hm
 cases hi432
 have hm:=hk430
 cases hm
 exact RetY.le (leD.refl _)
 obtain⟨hg,hm⟩:=gd_some hm
 obtain⟨sl456,hy,hm⟩:=bd_some hm
 refine⟨hg.1,hg.2,_,(flat_sub (c:=TRecord.c) (z:=8) (fun _=>rfl) _ _ _).trans (congrArg _ (Option.some.inj hy)), ?_⟩
 have hl:sl456.length=((x448.length:Int)).toNat-0:=by rw [←Option.some.inj hy];exact sub_len (by omega)
 rw [←hl]
 obtain⟨x457,hx458,hm⟩:=bd_some hm
 refine CallY.det (d_R08_SameRecords x448 sl456 _ hx458) ?_
 revert hm
 refine VIf.b (fun h459 hm=> ?_) (fun h459 hm=> ?_)
 cases hm
 cases hi432
 have hm:=hk430
 cases hm
 exact RetY.le (leD.refl _)
 refine⟨([]:List TRecord).flatMap TRecord.c,([]:List TRecord).length,⟨rfl,rfl⟩, ?_⟩
 obtain⟨hg,hm⟩:=gd_some hm
 refine⟨hg,_,_,flat_app (c:=TRecord.c) (l:=(([]:List TRecord):List TRecord)) (r:=(x448:List TRecord)), ?_⟩
 cases hm
 exact⟨(_,((W (i99+1)),x447.Thread,x447.Loose,(([]:List TRecord)++x448),(x448.length:Int))),SubY.fz [3] rfl 1 rfl ⟨tR rfl,tR rfl,tR rfl,tR rfl,tR rfl,tR rfl,tR rfl,trivial⟩ ⟨hR rfl,trivial⟩,hi432,Nat.lt_succ_self _⟩
 revert hm
 refine VIf.b (fun h460 hm=> ?_) (fun h460 hm=> ?_)
 obtain⟨x461,hx462,hm⟩:=bd_some hm
 refine CallY.det (d_depot_Fall ((⟨v121,v122⟩:TBox)) e437.Picks _ hx462) ?_
 obtain⟨⟨x463,x464⟩,hx465,hm⟩:=bd_some hm
 refine CallY.det (d_depot_Open x461 _ hx465) ?_
 revert hm
 refine VIf.b (fun h466 hm=> ?_) (fun h466 hm=> ?_)
 cases hm
 cases hi432
 have hm:=hk430
 cases hm
 exact RetY.le (leD.refl _)
 revert hm
 refine VIf.b (fun h467 hm=> ?_) (fun h467 hm=> ?_)
 cases hm
 cases hi432
 have hm:=hk430
 cases hm
 exact RetY.le (leD.refl _)
 obtain⟨x468,hx469,hm⟩:=bd_some hm
 refine CallY.det (d_depot_CheckBox x463 x464 _ hx469) ?_
 revert hm
 refine VIf.b (fun h470 hm=> ?_) (fun h470 hm=> ?_)
 cases hm
 cases hi432
 have hm:=hk430
 cases hm
 exact RetY.le (leD.refl _)
 revert hm
 refine VIf.b (fun h471 hm=> ?_) (fun h471 hm=> ?_)
 cases hm
 cases hi432
 have hm:=hk430
 cases hm
 exact RetY.le (leD.refl _)
 obtain⟨hg,hm⟩:=gd_some hm
 obtain⟨sl472,hy,hm⟩:=bd_some hm
 refine⟨hg.1,hg.2,_,(flat_sub (c:=TRecord.c) (z:=8) (fun _=>rfl) _ _ _).trans (congrArg _ (Option.some.inj hy)), ?_⟩
 have hl:sl472.length=((x464.length:Int)).toNat-0:=by rw [←Option.some.inj hy];exact sub_len (by omega)
 rw [←hl]
 obtain⟨x473,hx474,hm⟩:=bd_some hm
 refine CallY.det (d_R08_SameRecords x464 sl472 _ hx474) ?_
 revert hm
 refine VIf.b (fun h475 hm=> ?_) (fun h475 hm=> ?_)
 cases hm
 cases hi432
 have hm:=hk430
 cases hm
 exact RetY.le (leD.refl _)
 refine⟨([]:List TRecord).flatMap TRecord.c,([]:List TRecord).length,⟨rfl,rfl⟩, ?_⟩
 obtain⟨hg,hm⟩:=gd_some hm
 refine⟨hg,_,_,flat_app (c:=TRecord.c) (l:=(([]:List TRecord):List TRecord)) (r:=(x464:List TRecord)), ?_⟩
 cases hm
 exact⟨(_,((W (i99+1)),x463.Thread,x463.Loose,(([]:List TRecord)++x464),(x464.length:Int))),SubY.fz [3] rfl 1 rfl ⟨tR rfl,tR rfl,tR rfl,tR rfl,tR rfl,tR rfl,tR rfl,trivial⟩ ⟨hR rfl,trivial⟩,hi432,Nat.lt_succ_self _⟩
 refine⟨rfl, ?_⟩
 obtain⟨x476,hx477,hm⟩:=bd_some hm
 refine CallY.det (d_R08_Next written120 e437.Record _ hx477) ?_
 obtain⟨⟨x478,x479,x480⟩,hx481,hm⟩:=bd_some hm
 refine CallY.det (d_depot_Write ((⟨v121,v122⟩:TBox)) written120 x476 _ hx481) ?_
 revert hm
 refine VIf.b (fun h482 hm=> ?_) (fun h482 hm=> ?_)
 cases hm
 cases hi432
 have hm:=hk430
 cases hm
 exact RetY.le (leD.refl _)
 revert hm
 refine VIf.b (fun h483 hm=> ?_) (fun h483 hm=> ?_)
 cases hm
 cases hi432
 have hm:=hk430
 cases hm
 exact RetY.le (leD.refl _)
 obtain⟨x484,hx485,hm⟩:=bd_some hm
 refine CallY.det (d_depot_CheckBox x478 x479 _ hx485) ?_
 revert hm
 refine VIf.b (fun h486 hm=> ?_) (fun h486 hm=> ?_)
 cases hm
 cases hi432
 have hm:=hk430
 cases hm
 exact RetY.le (leD.refl _)
 cases hm
 exact⟨(_,((W (i99+1)),x478.Thread,x478.Loose,x479,firm103)),SubY.of 1 rfl ⟨tR rfl,tR rfl,tR rfl,tR rfl,tR rfl,tR rfl,tR rfl,trivial⟩ ⟨hR rfl,trivial⟩,hi432,Nat.lt_succ_self _⟩
 obtain⟨x487,hx488,hm⟩:=bd_some hm
 refine CallY.det (d_R08_Mod 5 7 _ hx488) ?_
 revert hm
 refine VIf.b (fun h489 hm=> ?_) (fun h489 hm=> ?_)
 obtain⟨x490,hx491,hm⟩:=bd_some hm
 refine CallY.det (d_depot_Bind ((⟨v121,v122⟩:TBox)) _ hx491) ?_
 cases hm
 exact⟨(_,((W (i99+1)),x490.Thread,x490.Loose,written120,(written120.length:Int))),SubY.of 1 rfl ⟨tR rfl,tR rfl,tR rfl,tR rfl,tR rfl,tR rfl,tR rfl,trivial⟩ ⟨hR rfl,trivial⟩,hi432,Nat.lt_succ_self _⟩
 revert hm
 refine VIf.b (fun h492 hm=> ?_) (fun h492 hm=> ?_)
 refine VIf.t h492 ?_
 obtain⟨x493,hx494,hm⟩:=bd_some hm
 refine CallY.det (d_depot_Fall ((⟨v121,v122⟩:TBox)) picks _ hx494) ?_
 obtain⟨⟨x495,x496⟩,hx497,hm⟩:=bd_some hm
 refine CallY.det (d_depot_Open x493 _ hx497) ?_
 revert hm
 refine VIf.b (fun h498 hm=> ?_) (fun h498 hm=> ?_)
 cases hm
 cases hi432
 have hm:=hk430
 cases hm
 exact RetY.le (leD.refl _)
 revert hm
 refine VIf.b (fun h499 hm=> ?_) (fun h499 hm=> ?_)
 cases hm
 cases hi432
 have hm:=hk430
 cases hm
 exact RetY.le (leD.refl _)
 obtain⟨x500,hx501,hm⟩:=bd_some hm
 refine CallY.det (d_depot_CheckBox x495 x496 _ hx501) ?_
 revert hm
 refine VIf.b (fun h502 hm=> ?_) (fun h502 hm=> ?_)
 cases hm
 cases hi432
 have hm:=hk430
 cases hm
 exact RetY.le (leD.refl _)
 revert hm
 refine VIf.b (fun h503 hm=> ?_) (fun h503 hm=> ?_)
 cases hm
 cases hi432
 have hm:=hk430
 cases hm
 exact RetY.le (leD.refl _)
 obtain⟨hg,hm⟩:=gd_some hm
 obtain⟨sl504,hy,hm⟩:=bd_some hm
 refine⟨hg.1,hg.2,_,(flat_sub (c:=TRecord.c) (z:=8) (fun _=>rfl) _ _ _).trans (congrArg _ (Option.some.inj hy)), ?_⟩
 have hl:sl504.length=((x496.length:Int)).toNat-0:=by rw [←Option.some.inj hy];exact sub_len (by omega)
 rw [←hl]
 obtain⟨x505,hx506,hm⟩:=bd_some hm
 refine CallY.det (d_R08_SameRecords x496 sl504 _ hx506) ?_
 revert hm
 refine VIf.b (fun h507 hm=> ?_) (fun h507 hm=> ?_)
 cases hm
 cases hi432
 have hm:=hk430
 cases hm
 exact RetY.le (leD.refl _)
 refine⟨([]:List TRecord).flatMap TRecord.c,([]:List TRecord).length,⟨rfl,rfl⟩, ?_⟩
 obtain⟨hg,hm⟩:=gd_some hm
 refine⟨hg,_,_,flat_app (c:=TRecord.c) (l:=(([]:List TRecord):List TRecord)) (r:=(x496:List TRecord)), ?_⟩
 cases hm
 exact⟨(_,((W (i99+1)),x495.Thread,x495.Loose,(([]:List TRecord)++x496),(x496.length:Int))),SubY.fz [3] rfl 1 rfl ⟨tR rfl,tR rfl,tR rfl,tR rfl,tR rfl,tR rfl,tR rfl,trivial⟩ ⟨hR rfl,trivial⟩,hi432,Nat.lt_succ_self _⟩
 revert hm
 refine VIf.b (fun h508 hm=> ?_) (fun h508 hm=> ?_)
 obtain⟨x509,hx510,hm⟩:=bd_some hm
 refine CallY.det (d_depot_Fall ((⟨v121,v122⟩:TBox)) picks _ hx510) ?_
 obtain⟨⟨x511,x512⟩,hx513,hm⟩:=bd_some hm
 refine CallY.det (d_depot_Open x509 _ hx513) ?_
 revert hm
 refine VIf.b (fun h514 hm=> ?_) (fun h514 hm=> ?_)
 cases hm
 cases hi432
 have hm:=hk430
 cases hm
 exact RetY.le (leD.refl _)
 revert hm
 refine VIf.b (fun h515 hm=> ?_) (fun h515 hm=> ?_)
 cases hm
 cases hi432
 have hm:=hk430
 cases hm
 exact RetY.le (leD.refl _)
 obtain⟨x516,hx517,hm⟩:=bd_some hm
 refine CallY.det (d_depot_CheckBox x511 x512 _ hx517) ?_
 revert hm
 refine VIf.b (fun h518 hm=> ?_) (fun h518 hm=> ?_)
 cases hm
 cases hi432
 have hm:=hk430
 cases hm
 exact RetY.le (leD.refl _)
 revert hm
 refine VIf.b (fun h519 hm=> ?_) (fun h519 hm=> ?_)
 cases hm
 cases hi432
 have hm:=hk430
 cases hm
 exact RetY.le (leD.refl _)
 obtain⟨hg,hm⟩:=gd_some hm
 obtain⟨sl520,hy,hm⟩:=bd_some hm
 refine⟨hg.1,hg.2,_,(flat_sub (c:=TRecord.c) (z:=8) (fun _=>rfl) _ _ _).trans (congrArg _ (Option.some.inj hy)), ?_⟩
 have hl:sl520.length=((x512.length:Int)).toNat-0:=by rw [←Option.some.inj hy];exact sub_len (by omega)
 rw [←hl]
 obtain⟨x521,hx522,hm⟩:=bd_some hm
 refine CallY.det (d_R08_SameRecords x512 sl520 _ hx522) ?_
 revert hm
 refine VIf.b (fun h523 hm=> ?_) (fun h523 hm=> ?_)
 cases hm
 cases hi432
 have hm:=hk430
 cases hm
 exact RetY.le (leD.refl _)
 refine⟨([]:List TRecord).flatMap TRecord.c,([]:List TRecord).length,⟨rfl,rfl⟩, ?_⟩
 obtain⟨hg,hm⟩:=gd_some hm
 refine⟨hg,_,_,flat_app (c:=TRecord.c) (l:=(([]:List TRecord):List TRecord)) (r:=(x512:List TRecord)), ?_⟩
 cases hm
 exact⟨(_,((W (i99+1)),x511.Thread,x511.Loose,(([]:List TRecord)++x512),(x512.length:Int))),SubY.fz [3] rfl 1 rfl ⟨tR rfl,tR rfl,tR rfl,tR rfl,tR rfl,tR rfl,tR rfl,trivial⟩ ⟨hR rfl,trivial⟩,hi432,Nat.lt_succ_self _⟩
 refine⟨rfl, ?_⟩
 obtain⟨x524,hx525,hm⟩:=bd_some hm
 refine CallY.det (d_R08_Next written120 (0,0,0,0,0) _ hx525) ?_
 obtain⟨⟨x526,x527,x528⟩,hx529,hm⟩:=bd_some hm
 refine CallY.det (d_depot_Write ((⟨v121,v122⟩:TBox)) written120 x524 _ hx529) ?_
 revert hm
 refine VIf.b (fun h530 hm=> ?_) (fun h530 hm=> ?_)
 cases hm
 cases hi432
 have hm:=hk430
 cases hm
 exact RetY.le (leD.refl _)
 revert hm
 refine VIf.b (fun h531 hm=> ?_) (fun h531 hm=> ?_)
 cases hm
 cases hi432
 have hm:=hk430
 cases hm
 exact RetY.le (leD.refl _)
 obtain⟨x532,hx533,hm⟩:=bd_some hm
 refine CallY.det (d_depot_CheckBox x526 x527 _ hx533) ?_
 revert hm
 refine VIf.b (fun h534 hm=> ?_) (fun h534 hm=> ?_)
 cases hm
 cases hi432
 have hm:=hk430
 cases hm
 exact RetY.le (leD.refl _)
 cases hm
 exact⟨(_,((W (i99+1)),x526.Thread,x526.Loose,x527,firm103)),SubY.of 1 rfl ⟨tR rfl,tR rfl,tR rfl,tR rfl,tR rfl,tR rfl,tR rfl,trivial⟩ ⟨hR rfl,trivial⟩,hi432,Nat.lt_succ_self _⟩
 obtain⟨x535,hx536,hm⟩:=bd_some hm
 refine CallY.det (d_R08_Mod 5 7 _ hx536) ?_
 revert hm
 refine VIf.b (fun h537 hm=> ?_) (fun h537 hm=> ?_)
 obtain⟨x538,hx539,hm⟩:=bd_some hm
 refine CallY.det (d_depot_Bind ((⟨v121,v122⟩:TBox)) _ hx539) ?_
 cases hm
 exact⟨(_,((W (i99+1)),x538.Thread,x538.Loose,written120,(written120.length:Int))),SubY.of 1 rfl ⟨tR rfl,tR rfl,tR rfl,tR rfl,tR rfl,tR rfl,tR rfl,trivial⟩ ⟨hR rfl,trivial⟩,hi432,Nat.lt_succ_self _⟩
 revert hm
 refine VIf.b (fun h540 hm=> ?_) (fun h540 hm=> ?_)
 refine VIf.t h540 ?_
 obtain⟨x541,hx542,hm⟩:=bd_some hm
 refine CallY.det (d_depot_Fall ((⟨v121,v122⟩:TBox)) picks _ hx542) ?_
 obtain⟨⟨x543,x544⟩,hx545,hm⟩:=bd_some hm
 refine CallY.det (d_depot_Open x541 _ hx545) ?_
 revert hm
 refine VIf.b (fun h546 hm=> ?_) (fun h546 hm=> ?_)
 cases hm
 cases hi432
 have hm:=hk430
 cases hm
 exact RetY.le (leD.refl _)
 revert hm
 refine VIf.b (fun h547 hm=> ?_) (fun h547 hm=> ?_)
 cases hm
 cases hi432
 have hm:=hk430
 cases hm
 exact RetY.le (leD.refl _)
 obtain⟨x548,hx549,hm⟩:=bd_some hm
 refine CallY.det (d_depot_CheckBox x543 x544 _ hx549) ?_
 revert hm
 refine VIf.b (fun h550 hm=> ?_) (fun h550 hm=> ?_)
 cases hm
 cases hi432
 have hm:=hk430
 cases hm
 exact RetY.le (leD.refl _)
 revert hm
 refine VIf.b (fun h551 hm=> ?_) (fun h551 hm=> ?_)
 cases hm
 cases hi432
 have hm:=hk430
 cases hm
 exact RetY.le (leD.refl _)
 obtain⟨hg,hm⟩:=gd_some hm
 obtain⟨sl552,hy,hm⟩:=bd_some hm
 refine⟨hg.1,hg.2,_,(flat_sub (c:=TRecord.c) (z:=8) (fun _=>rfl) _ _ _).trans (congrArg _ (Option.some.inj hy)), ?_⟩
 have hl:sl552.length=((x544.length:Int)).toNat-0:=by rw [←Option.some.inj hy];exact sub_len (by omega)
 rw [←hl]
 obtain⟨x553,hx554,hm⟩:=bd_some hm
 refine CallY.det (d_R08_SameRecords x544 sl552 _ hx554) ?_
 revert hm
 refine VIf.b (fun h555 hm=> ?_) (fun h555 hm=> ?_)
 cases hm
 cases hi432
 have hm:=hk430
 cases hm
 exact RetY.le (leD.refl _)
 refine⟨([]:List TRecord).flatMap TRecord.c,([]:List TRecord).length,⟨rfl,rfl⟩, ?_⟩
 obtain⟨hg,hm⟩:=gd_some hm
 refine⟨hg,_,_,flat_app (c:=TRecord.c) (l:=(([]:List TRecord):List TRecord)) (r:=(x544:List TRecord)), ?_⟩
 cases hm
 exact⟨(_,((W (i99+1)),x543.Thread,x543.Loose,(([]:List TRecord)++x544),(x544.length:Int))),SubY.fz [3] rfl 1 rfl ⟨tR rfl,tR rfl,tR rfl,tR rfl,tR rfl,tR rfl,tR rfl,trivial⟩ ⟨hR rfl,trivial⟩,hi432,Nat.lt_succ_self _⟩
 revert hm
 refine VIf.b (fun h556 hm=> ?_) (fun h556 hm=> ?_)
 obtain⟨x557,hx558,hm⟩:=bd_some hm
 refine CallY.det (d_depot_Fall ((⟨v121,v122⟩:TBox)) picks _ hx558) ?_
 obtain⟨⟨x559,x560⟩,hx561,hm⟩:=bd_some hm
 refine CallY.det (d_depot_Open x557 _ hx561) ?_
 revert hm
 refine VIf.b (fun h562 hm=> ?_) (fun h562 hm=> ?_)
 cases hm
 cases hi432
 have hm:=hk430
 cases hm
 exact RetY.le (leD.refl _)
 revert hm
 refine VIf.b (fun h563 hm=> ?_) (fun h563 hm=> ?_)
 cases hm
 cases hi432
 have hm:=hk430
 cases hm
 exact RetY.le (leD.refl _)
 obtain⟨x564,hx565,hm⟩:=bd_some hm
 refine CallY.det (d_depot_CheckBox x559 x560 _ hx565) ?_
 revert hm
 refine VIf.b (fun h566 hm=> ?_) (fun h566 hm=> ?_)
 cases hm
 cases hi432
 have hm:=hk430
 cases hm
 exact RetY.le (leD.refl _)
 revert hm
 refine VIf.b (fun h567 hm=> ?_) (fun h567 hm=> ?_)
 cases hm
 cases hi432
 have hm:=hk430
 cases hm
 exact RetY.le (leD.refl _)
 obtain⟨hg,hm⟩:=gd_some hm
 obtain⟨sl568,hy,hm⟩:=bd_some hm
 refine⟨hg.1,hg.2,_,(flat_sub (c:=TRecord.c) (z:=8) (fun _=>rfl) _ _ _).trans (congrArg _ (Option.some.inj hy)), ?_⟩
 have hl:sl568.length=((x560.length:Int)).toNat-0:=by rw [←Option.some.inj hy];exact sub_len (by omega)
 rw [←hl]
 obtain⟨x569,hx570,hm⟩:=bd_some hm
 refine CallY.det (d_R08_SameRecords x560 sl568 _ hx570) ?_
 revert hm
 refine VIf.b (fun h571 hm=> ?_) (fun h571 hm=> ?_)
 cases hm
 cases hi432
 have hm:=hk430
 cases hm
 exact RetY.le (leD.refl _)
 refine⟨([]:List TRecord).flatMap TRecord.c,([]:List TRecord).length,⟨rfl,rfl⟩, ?_⟩
 obtain⟨hg,hm⟩:=gd_some hm
 refine⟨hg,_,_,flat_app (c:=TRecord.c) (l:=(([]:List TRecord):List TRecord)) (r:=(x560:List TRecord)), ?_⟩
 cases hm
 exact⟨(_,((W (i99+1)),x559.Thread,x559.Loose,(([]:List TRecord)++x560),(x560.length:Int))),SubY.fz [3] rfl 1 rfl ⟨tR rfl,tR rfl,tR rfl,tR rfl,tR rfl,tR rfl,tR rfl,trivial⟩ ⟨hR rfl,trivial⟩,hi432,Nat.lt_succ_self _⟩
 refine⟨rfl, ?_⟩
 obtain⟨x572,hx573,hm⟩:=bd_some hm
 refine CallY.det (d_R08_Next written120 (0,0,0,0,0) _ hx573) ?_
 obtain⟨⟨x574,x575,x576⟩,hx577,hm⟩:=bd_some hm
 refine CallY.det (d_depot_Write ((⟨v121,v122⟩:TBox)) written120 x572 _ hx577) ?_
 revert hm
 refine VIf.b (fun h578 hm=> ?_) (fun h578 hm=> ?_)
 cases hm
 cases hi432
 have hm:=hk430
 cases hm
 exact RetY.le (leD.refl _)
 revert hm
 refine VIf.b (fun h579 hm=> ?_) (fun h579 hm=> ?_)
 cases hm
 cases hi432
 have hm:=hk430
 cases hm
 exact RetY.le (leD.refl _)
 obtain⟨x580,hx581,hm⟩:=bd_some hm
 refine CallY.det (d_depot_CheckBox x574 x575 _ hx581) ?_
 revert hm
 refine VIf.b (fun h582 hm=> ?_) (fun h582 hm=> ?_)
 cases hm
 cases hi432
 have hm:=hk430
 cases hm
 exact RetY.le (leD.refl _)
 cases hm
 exact⟨(_,((W (i99+1)),x574.Thread,x574.Loose,x575,firm103)),SubY.of 1 rfl ⟨tR rfl,tR rfl,tR rfl,tR rfl,tR rfl,tR rfl,tR rfl,trivial⟩ ⟨hR rfl,trivial⟩,hi432,Nat.lt_succ_self _⟩
 cases hm
 cases hi432
 have hm:=hk430
 cases hm
 exact RetY.le (leD.refl _)
 cases hm
 cases hi432
 have hm:=hk430
 cases hm
 exact RetY.le (leD.refl _)
end Go.Proofs.YtggdlgclohnbaaaGreatDoor
