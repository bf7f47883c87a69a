/- Laws of the walk over pure data. -/
import Derived.Test.YtggdlgclohnbaaaGreatDoorB1
import Derived.Lib.ConvBytes
import Derived.Laws.BytesString
import Derived.MapKept
import Derived.ChangeKeysEq
import Derived.Laws.CopyRow
import Derived.RangeFuncNested
import Derived.RangeFuncBound
import Derived.RangeFuncCalls
import Derived.RangeFuncLeaves
import Derived.TacticsIn
import Derived.OrdersIn
import Derived.Sort.LoopGhostIn
set_option linter.unusedVariables false
set_option linter.unusedSimpArgs false
namespace Go
theorem a2U:type_of% @Go.MapKept.heap_alloc:=@Go.MapKept.heap_alloc
theorem a6S:type_of% @Array.getElem?_append_left:=@Array.getElem?_append_left
theorem a5m:type_of% @List.take_of_length_le:=@List.take_of_length_le
theorem b1F:type_of% @List.take_append_of_le_length:=@List.take_append_of_le_length
theorem b3O:type_of% @List.getElem?_append_left:=@List.getElem?_append_left
theorem a7e:type_of% @Go.wp_region_list:=@Go.wp_region_list
theorem b6l:type_of% @List.drop_eq_getElem_cons:=@List.drop_eq_getElem_cons
theorem c0Q:type_of% @Array.getElem?_setIfInBounds_self:=@Array.getElem?_setIfInBounds_self
theorem b6d:type_of% @Go.World.putObj_heap_other:=@Go.World.putObj_heap_other
theorem b7X:type_of% @List.getElem?_append_right:=@List.getElem?_append_right
theorem b0A:type_of% @Nat.lt_trichotomy:=@Nat.lt_trichotomy
theorem b2K:type_of% @Int.toNat_of_nonneg:=@Int.toNat_of_nonneg
end Go
namespace Go.Sx
open Go Go.RowKit
theorem c2u{P:Program}{o:Oper}{a:Act}{w w':World}{v:Value}{K:Act→World→Prop}{Q:Exit→Act→World→Prop}(h:(execOp a.eval o).run P w=.ok (.value v) w')(hk:K (a.put o.dst v) w'):o.wp P a w K Q:=by
 unfold Oper.wp;rw[h];exact hk
theorem d0G{P:Program}{o:Oper}{a:Act}{w w':World}{K:Act→World→Prop}{Q:Exit→Act→World→Prop}(h:(execOp a.eval o).run P w=.ok .skip w')(hk:K (a.put o.dst undef) w'):o.wp P a w K Q:=by
 unfold Oper.wp;rw[h];exact hk
theorem b6F:∀(xs:List Int) (s:ByteArray),xs.foldl (fun r n=>r.push (UInt8.ofNat n.toNat)) s=⟨s.data++(xs.map fun n=>UInt8.ofNat n.toNat).toArray⟩
 |[],s=>by simp
 |x::xs,s=>by
  rw[List.foldl_cons,b6F xs];simp only[ByteArray.push,H7,ByteArray.mk.injEq];apply N8;simp
theorem c6Q{P:Program}(w:World){ad:Option Addr}{n c:Nat}(xs:List Int)(hn:xs.length=n)(h:n=0∨∃b o,ad=some ⟨b,o,none⟩∧∀j,j<n→w.cell? ⟨b,o+j,none⟩=(xs.map (Value.int .u8))[j]?):
 (Conv.bytesToString (.slice ad n c)).run P w=.ok (.string (a4y xs)) w:=by
 have fin:∀a:Addr,(loadCells a n).run P w=.ok (xs.map (Value.int .u8)).toArray w→(Conv.bytesToString (.slice (some a) n c)).run P w=.ok (.string (a4y xs)) w:=by
  intro a h;rw[run_bytesToString w a n c xs h,b6F];simp only[a4y,ByteArray.empty,ByteArray.emptyWithCapacity];congr 2;simp;rfl
 rcases h with rfl|⟨b,o,rfl,h⟩
 ·have hx:xs=[]:=a5Q hn;subst hx;cases ad with
  |none=>rfl
  |some a=>exact fin a rfl
 ·refine fin _ ?_
  have:=run_loadCells_list (P:=P) (w:=w) ⟨b,o,none⟩ (xs.map (Value.int .u8)) (fun j v hj=>by
   rw[O8,h j (by have:=(P3.1 hj).1;simpa[hn]using this),hj])
  simpa[hn]using this
theorem b9w{ok:Nat→Prop}{w:World}:∀ {xs:List Int}{r:List Value},l5 ok w (xs.map fun x=>.v (.int .u8 x)) r→r=xs.map (Value.int .u8)
 |[],[],_=>rfl
 |x::xs,y::r,h=>by
  simp only[H7,l5,Rep]at h;rw[h.1.1,b9w h.2];rfl
 |[],_::_,h=>by simp[l5]at h
 |_::_,[],h=>by simp[l5]at h
theorem b3S(w:World)(e:TypeId)(s:ByteArray):Below w.heap.size w (Lib.bytesWorld w e s):=
 ⟨rfl,rfl,rfl,by rw[Lib.bytesWorld_size];omega,fun i hi=>Lib.bytesWorld_at_old w e s i hi⟩
section
variable {A : Nat → Prop}{X : Cy}{w0 : World}{bor : List Nat}{st : St}{sy : Sy}{a : Act}{w : World}
theorem c4J(hr:Rel (cx X w0 bor) st a w)(hs:Sim A st sy){o:Oper}{Q:Exit→Act→World→Prop}{KY:Sy→Prop}{r:D}{v:Value}{w':World}(hrun:(execOp a.eval o).run X.P w=.ok (.value v) w')(hb:Below w.heap.size w w')
 (hrd:j5 (okS A (now st w')) w' (B0 (now st w')) r (.v v)) (hp:O5 X sy o.dst r KY):o.wp X.P a w (LvY A (cx X w0 bor) st.H w KY) Q:=by
 refine c2u hrun ?_;have hput:=D3 (w0:=w0) (bor:=bor) hp (hs.past hr.cls hb) hrd;obtain⟨st2,⟨sy2,h1,h2⟩,h3,h4⟩:=a1g (hr.past hb) hput (v:=v) (.inr rfl);exact⟨st2,sy2,h1,h2,h3,(Fx.refl _ _).of_below hb,fun b hb2=>.inl (by rw[h4]at hb2;exact hb2)⟩
theorem c6E{T:List (Nat×D)}{H:Hy}{nk:Nat}{T':List (Nat×SV)}{H':Hp}{nk':Nat}{w w1:World}{lo lo1:Nat}{iv iv1:List (Nat×Nat)}{b:Nat}{m:MTy}
 (hs:Sim A ⟨T',H',nk',w,lo,iv⟩ ⟨T,H,nk⟩) (hv:w.heap.size≤b) (hfx:Fx (bs H') w w1) (hlo:(lo1=w1.heap.size)∨(lo1=lo∧iv1=iv)):
 Sim A ⟨T',(nk',.mp b [] m)::H',nk'+1,w1,lo1,iv1⟩ ⟨T,(nk,.mp [] m)::H,nk+1⟩:=by
 have hnk:nk=nk':=hs.nk;subst hnk
 have hok:∀c,okS A ⟨T',H',nk,w,lo,iv⟩ c→okS A ⟨T',(nk,.mp b [] m)::H',nk+1,w1,lo1,iv1⟩ c∧w1.heap[c]?=w.heap[c]?:=by
  intro c ⟨h1,h2,h3⟩;refine⟨⟨⟨?_,h1.2⟩,C5 h2 hfx.size,fun x hx=>?_⟩,hfx.block c h2 h3⟩
  ·rcases hlo with rfl|⟨rfl,rfl⟩
   ·exact .inl (C5 h2 hfx.size)
   ·exact h1.1
  ·simp only[bs,bsE,E3,a1V]at hx;rcases hx with hx|hx
   ·subst hx;intro e;simp only at h2;omega
   ·exact h3 x hx
 have hk:∀q k,B0 ⟨T',H',nk,w,lo,iv⟩ q k→B0 ⟨T',(nk,.mp b [] m)::H',nk+1,w1,lo1,iv1⟩ q k:=by
  intro q k ⟨h1,h2⟩;simp only at h1;refine⟨by simp only;omega,fun hq=>?_⟩;simp only;rw[Q5 (by omega)];exact h2 hq
 refine⟨fun d x hx=>?_,fun k e he=>?_,rfl,fun j hj=>hs.fT j (by simp only at hj⊢;omega),fun j hj=>Q1 rfl (hs.fH j (by simp only at hj⊢;omega))⟩
 ·rcases hs.T d x hx with h|⟨s,h1,h2⟩
  ·exact .inl h
  ·exact .inr ⟨s,h1,j5.mono hok hk _ _ h2⟩
 ·simp only[m7]at he;simp only[l4];cases hb:Nat.beq nk k with
  |true=>
   rw[hb]at he;cases he;exact⟨_,rfl,rfl,rfl⟩
  |false=>
   rw[hb]at he;obtain⟨e',h1,h2⟩:=hs.H k e he;exact⟨e',h1,a3H.mono hok hk h2⟩
theorem c9t{o:Oper}{Q:Exit→Act→World→Prop}{KY:Sy→Prop}(hr:Rel (cx X w0 bor) st a w)(hs:Sim A st sy){t:TypeId}(hop:o.op=.makeMap t none){m:MTy}
 (h:match sy with|⟨T,H,nk⟩=>O5 X ⟨T,(nk,.mp [] m)::H,nk+1⟩ o.dst (.row nk 0) KY):o.wp X.P a w (LvY A (cx X w0 bor) st.H w KY) Q:=by
 have hr0:=hr.now;have hs0:=hs.now hr.cls;have hrun:(execOp a.eval o).run X.P w=.ok (.value (.map (some w.heap.size))) (w.alloc (.map #[] 0)):=by simp[execOp,hop,Instr.makeMap,Result.andThen]
 refine c2u hrun ?_;obtain⟨T,H,nk⟩:=sy;obtain⟨T',H',nk',ws,lo,iv⟩:=st;have hnk:nk=nk':=hs.nk;subst hnk;obtain⟨g1,g2⟩:=a2U w (.map #[] 0);have hsz:(w.alloc (.map #[] 0)).heap.size=w.heap.size+1:=by simp
 have hrel:=hr0.cons (w':=w.alloc (.map #[] 0)) (e:=.mp w.heap.size [] m) (hs.fT nk (y6 _)) (hs.fH nk (y6 _)) (by omega) (fun i hi=>g2 i hi) rfl rfl rfl ⟨#[],0,g1,rfl,fun p hp=>by cases hp⟩ (fun b hb=>by simp[bsE]at hb;omega) (by simp[bsE]);have hrel2:=hrel.now;have hfx:Fx (bs H') w (w.alloc (.map #[] 0)):=⟨rfl,rfl,rfl,by omega,fun i hi _=>g2 i hi⟩
 have hsim:Sim A ⟨T',(nk,.mp w.heap.size [] m)::H',nk+1,w.alloc (.map #[] 0),(w.alloc (.map #[] 0)).heap.size,[]⟩ ⟨T,(nk,.mp [] m)::H,nk+1⟩:=
  c6E (lo:=w.heap.size) (iv:=[]) (w:=w) hs0 (y6 _) hfx (.inl rfl)
 have hput:=D3 (w0:=w0) (bor:=bor) (s:=.row nk) h hsim (by simp only[j5];exact⟨trivial,by simp only;omega,fun _=>⟨_,by simp only[l4,Nat.beq_refl];rfl,rfl⟩⟩);obtain⟨st2,⟨sy2,h1,h2⟩,h3,h4⟩:=a1g hrel2 hput (v:=.map (some w.heap.size)) (.inr (by simp[den,o5,now,l4]));refine⟨st2,sy2,h1,h2,h3,hfx,fun b hb2=>?_⟩;rw[h4]at hb2;simp only[now,bs,bsE,E3,a1V]at hb2;rcases hb2 with hb2|hb2
 ·exact .inr (by omega)
 ·exact .inl hb2
theorem d1H(hP:POK X.P X.tt){o:Oper}{Q:Exit→Act→World→Prop}{KY:Sy→Prop}(hr:Rel (cx X w0 bor) st a w)(hs:Sim A st sy){t:TypeId}{mo ko xo:Operand}(hop:o.op=.mapUpdate t mo ko xo){j z:Nat}{kd:D}{xv:Value}{es:List (Value×Value)}{m:MTy}{kc:List Value}
 (hm:evY sy mo=some (.row j z)) (hk:evY sy ko=some kd) (hx:evY sy xo=some (.v xv)) (hf:m7 sy.H j=some (.mp es m)) (hM:b1q X.P X.tt m) (ht:m.t=t) (hpl:plV xv=true) (hkc:a8O m.ag kd=some kc) (hty:s8 m.ks kc)
 (h:match sy with|⟨T,H,nk⟩=>O5 X ⟨T,b1B H j (.mp (a8N (H3 m.ag kc) xv es kc) m),nk⟩ o.dst .und KY):o.wp X.P a w (LvY A (cx X w0 bor) st.H w KY) Q:=by
 have hr0:=hr.now;have hs0:=hs.now hr.cls;obtain⟨s1,e1,r1,_⟩:=o0 hs hm;obtain⟨s2,e2,r2,_⟩:=o0 hs hk;obtain⟨s3,e3,r3,_⟩:=o0 hs hx;simp only[j5]at r1 r3;obtain⟨rfl,_⟩:=r1;obtain⟨rfl,_⟩:=r3;obtain⟨e',hf',he⟩:=hs.H _ _ hf;cases e' with
 |blk=>exact he.elim
 |row=>exact he.elim
 |mp b es' m'=>
  obtain⟨rfl,rfl⟩:=he;have hat:b0w w b es m:=by have:=hr.cls.own j _ (o7 hf');exact this
  obtain⟨w',hrun,hat',hfx,hsz⟩:=b6q hP.tt hM hat hty hpl;have hd1:=(hr.ev _ _ e1).2;have hd2:=(hr.ev _ _ e2).2;have hd3:=(hr.ev _ _ e3).2;have hden:den st.H (.row j)=.map (some b):=by simp[den,o5,hf']
  have hex:(execOp a.eval o).run X.P w=.ok .skip w':=by
   simp only[execOp,hop,hd1,hd2,hd3,hden,b1z hkc r2,←ht,y9];rw[show den st.H (.v xv)=xv from rfl,hrun];rfl
  refine d0G hex ?_;obtain⟨T,H,nk⟩:=sy;obtain⟨T',H',nk',ws,lo,iv⟩:=st;have hnk:nk=nk':=hs.nk;subst hnk;simp only at hf';obtain⟨H1,H2,hH,hk1,hupd⟩:=b3h hf'
  have hdd:∀i,bOf (H1++(j,.mp b (a8N (H3 m.ag kc) xv es kc) m)::H2) i=bOf (H1++(j,.mp b es m)::H2) i∧o5 (H1++(j,.mp b (a8N (H3 m.ag kc) xv es kc) m)::H2) i=o5 (H1++(j,.mp b es m)::H2) i:=by
   intro i;simp only[bOf,o5,a1x (e:=.mp b (a8N (H3 m.ag kc) xv es kc) m) (e0:=.mp b es m) hk1];by_cases hj:i=j
   ·subst hj;simp[a1o hk1]
   ·simp[hj]
  have hr3:Rel (cx X w0 bor) ⟨T',H1++(j,.mp b (a8N (H3 m.ag kc) xv es kc) m)::H2,nk,w,w.heap.size,[]⟩ a w':=by
   have hr2:Rel (cx X w0 bor) ⟨T',H1++(j,.mp b es m)::H2,nk,w,w.heap.size,[]⟩ a w:=by
    have:=hr0;unfold Sx.now at this;simp only at this;rw[hH]at this;exact this
   exact hr2.swap rfl hdd hsz (fun i hi=>by
    by_cases hlt:i<w.heap.size
    ·exact hfx.block i hlt fun c hc e=>hi (by simp[bsE]at hc⊢;omega)
    ·rw[b3T (by omega),b3T (by omega)]) hfx.os hfx.tape hfx.output hat'
  have hr4:=hr3.now
  have s3:Sim A ⟨T',a1F H' j (.mp b (a8N (H3 m.ag kc) xv es kc) m),nk,w,w.heap.size,[]⟩ ⟨T,b1B H j (.mp (a8N (H3 m.ag kc) xv es kc) m),nk⟩:=
   b4w (e0:=.mp b es m) hs0 hf' (by exact⟨rfl,rfl⟩) rfl (fun _=>rfl) fun j hj=>rfl
  rw[hupd]at s3;have s4:=s3.now hr3.cls;have hput:=D3 (w0:=w0) (bor:=bor) (s:=.v undef) h s4 (by simp only[j5]);obtain⟨st2,⟨sy2,g1,g2⟩,g3,g4⟩:=a1g hr4 hput (v:=undef) (.inr rfl);refine⟨st2,sy2,g1,g2,g3,hfx.wide fun c hc=>A3.2 ⟨j,_,o7 hf',by simpa[bsE]using hc⟩,fun c hb2=>.inl ?_⟩
  rw[g4]at hb2;have:bs (H1++(j,Ent.mp b (a8N (H3 m.ag kc) xv es kc) m)::H2)=bs H':=by rw[hH];exact b2g rfl
  rw[←this];exact hb2
theorem d1e(hA:AG A X.P w0 bor)(hP:POK X.P X.tt){o:Oper}{Q:Exit→Act→World→Prop}{KY:Sy→Prop}(h:xop X sy o.dst o.op KY)(hs:Sim A st sy)(hr:Rel (cx X w0 bor) st a w):o.wp X.P a w (LvY A (cx X w0 bor) st.H w KY) Q:=by
 have hstr:∀ {src dt:TypeId}{x:Operand}{s:SV}{ad:Option Addr}{n c:Nat}{xs:List Int}{e:TypeId},o.op=.convert src dt x→ev st x=some s→den st.H s=.slice ad n c→X.P.underlying src=some (.slice e)→X.P.underlying e=some (.int .u8)→X.P.underlying dt=some .string→xs.length=n→
  (n=0∨∃b o,ad=some ⟨b,o,none⟩∧∀j,j<n→w.cell? ⟨b,o+j,none⟩=(xs.map (Value.int .u8))[j]?)→O5 X sy o.dst (.v (.string (a4y xs))) KY→o.wp X.P a w (LvY A (cx X w0 bor) st.H w KY) Q:=by
  intro src dt x s ad n c xs e hop he hden h1 h2 h3 hn hc hp;have hd:=(hr.ev _ _ he).2;rw[hden]at hd;refine c4J hr hs (v:=.string (a4y xs)) (w':=w) ?_ ⟨rfl,rfl,rfl,y6 _,fun _ _=>rfl⟩ (by simp only[j5];exact⟨trivial,rfl⟩) hp;simp only[execOp,hop,hd,y9,run_convert_bytes_string w src dt e ad n c h1 h2 h3,c6Q w xs hn hc,I9,O7]
 unfold xop at h;split at h
 ·rename_i t r hop;split at h
  ·obtain⟨m,⟨rfl,hm⟩,h⟩:=h;exact c9t hr hs hop (m:=m) h
  ·exact h.elim
 ·rename_i t mo ko xo hop;split at h
  ·rename_i j z kd xv hm hk hx;split at h
   ·rename_i es mt hf;obtain⟨⟨hM,ht,hpl⟩,kc,es',⟨hkc,hty,rfl⟩,h⟩:=h;have h:=a3V h;exact d1H hP hr hs hop hm hk hx hf hM ht hpl hkc hty (by obtain⟨T,H,nk⟩:=sy;exact h)
   ·exact h.elim
  ·exact h.elim
 ·rename_i src dt x hop;split at h
  ·rename_i s hx;obtain⟨⟨e,u,h1,h2,h3⟩,hsz,l,n,⟨rfl,rfl⟩,hp⟩:=h;obtain⟨s1,e1,r1,_⟩:=o0 hs hx;simp only[j5]at r1;obtain⟨rfl,_⟩:=r1;have hd:=(hr.ev _ _ e1).2;refine c4J hr hs (v:=.slice (some ⟨w.heap.size,0,none⟩) s.size (grownCap w s.size 0 e)) (w':=Lib.bytesWorld w e s) ?_ (b3S w e s) ?_ hp
   ·rw[show den st.H (.v (.string s))=.string s from rfl]at hd;simp only[execOp,hop,hd,y9,Lib.run_convert_string_bytes w src dt e s h1 h2 h3,I9,O7]
   ·simp only[j5];refine⟨_,rfl,?_⟩;simp only[Rep];refine⟨_,_,rfl,grownCap_ge _ _ _ _,by omega,by simp[b3c],M3 fun d hd=>by simp only[b3c,L6]at hd;obtain⟨x,_,rfl⟩:=hd;rfl,.inr ⟨w.heap.size,0,s.data.toList.map fun b=>.int .u8 b.toNat,rfl,?_,?_,fun j hj=>?_⟩⟩
    ·refine⟨⟨.inl ?_,hA.a _ (.inl hr.cls.fx0.size)⟩,?_,fun c hc e=>?_⟩
     ·simp only[now];rw[Lib.bytesWorld_size];omega
     ·simp only[now];rw[Lib.bytesWorld_size];omega
     ·have:=hr.cls.lt_size hc;omega
    ·unfold b3c;generalize s.data.toList=L
     induction L with
     |nil=>trivial
     |cons b L ih=>exact⟨by simp only[Rep];exact⟨trivial,rfl⟩,ih⟩
    ·have hj':j<s.size:=by omega
     rw[a0k,Lib.bytesWorld_cell w e s j hj'];have:j<s.data.toList.length:=by simpa using hj'
     have h2:j<s.data.size:=by simpa using this
     have h4:s.data[j]?=some s.data[j]:=a4t h2;simp[List.getD,h4]
  ·rename_i z n l hx;obtain⟨⟨rfl,e,h1,h2,h3⟩,xs,rfl,hp⟩:=h;obtain⟨s1,e1,r1,_⟩:=o0 hs hx;simp only[j5,Rep]at r1;obtain⟨y,rfl,ad,c,rfl,hnc,hmx,hlen,hfl,hmem⟩:=r1;have hn:xs.length=n:=by simpa using hlen
   refine hstr hop e1 rfl h1 h2 h3 hn ?_ hp;rcases hmem with rfl|⟨b,o',ys,rfl,hok,hrep,hcell⟩
   ·exact .inl (by omega)
   ·refine .inr ⟨b,o',rfl,fun j hj=>?_⟩;have:=b9w hrep;subst this;rw[←hcell j (by omega)];simp only[World.cell?];rw[hr.cls.fx.block b hok.2.1 hok.2.2]
  ·rename_i j z0 hx;split at h
   ·rename_i z n l ty hf;obtain⟨⟨rfl,e,h1,h2,h3⟩,xs,rfl,hp⟩:=h;obtain⟨s1,e1,r1,_⟩:=o0 hs hx;simp only[j5]at r1;obtain⟨rfl,_⟩:=r1;obtain⟨e',hf',he⟩:=hs.H _ _ hf;cases e' with
    |blk=>exact he.elim
    |mp=>exact he.elim
    |row v n' ys z' ty'=>
     obtain⟨rfl,rfl,rfl,hrep,hfl,hlen⟩:=he;have:=b9w hrep;subst this;have hn:xs.length=n:=by simpa using hlen
     have hown:=hr.cls.row hf';have hden:den st.H (.row j)=v:=by simp[den,o5,hf']
     rcases hown.2 with⟨rfl,rfl⟩|⟨g,cap,cur,rfl,_,hb,_,_,_,htake⟩
     ·exact hstr hop e1 hden h1 h2 h3 hn (.inl rfl) hp
     ·refine hstr hop e1 hden h1 h2 h3 hn (.inr ⟨g,0,rfl,fun i hi=>?_⟩) hp;rw[a0k,a5g hb,←htake,a5q,k9 (by omega)];simp
   ·exact h.elim
  ·exact h.elim
 ·exact h.elim
theorem b9b{sy1:Sy}{ks:List Nat}(hA:AG A X.P w0 bor)(hf:a5f ks sy []=some (sy1,[]))(hs:Sim A st sy)(hr:Rel (cx X w0 bor) st a w):∃st',Sim A st' sy1∧Rel (cx X w0 bor) st' a w∧∀b,b∈bs st'.H→b∈bs st.H:=by
 have hr0:=hr.now;have hs0:=hs.now hr.cls;obtain⟨st1,_,c1,a1,s1,b1,o1,_,_⟩:=a7h (Xx:=cx X w0 bor) (r:=[]) hA.a _ hr0.cls ⟨rfl,rfl,rfl⟩ hs0 (by simp only[j9]) hf;refine⟨st1,s1,?_,fun b hb=>b1.bs b hb⟩;refine⟨hr.size,fun d s hd=>?_,hr.dfs,?_,?_,?_⟩
 ·rcases o1 d s hd with e|⟨s0,h1,h2,h3⟩
  ·exact .inl e
  ·rcases hr0.T d s0 h1 with e|e
   ·exact absurd e h2
   ·right;rw[e,h3]
 ·rw[a1.1];exact c1
 ·rw[a1.2.1];exact y6 _
 ·rw[a1.2.2];simp
theorem c7C(hA:AG A X.P w0 bor)(hP:POK X.P X.tt){o:Oper}{Q:Exit→Act→World→Prop}{KY:Sy→Prop}(h:b3y X sy o KY)
 (hy:∀(st:St) (sy:Sy),y1 X sy o.op (a9k X true sy o.dst KY)→Sim A st sy→Rel (cx X w0 bor) st a w→o.wp X.P a w (LvY A (cx X w0 bor) st.H w KY) Q) (hs:Sim A st sy) (hr:Rel (cx X w0 bor) st a w):o.wp X.P a w (LvY A (cx X w0 bor) st.H w KY) Q:=by
 unfold b3y at h;split at h
 ·exact d1e hA hP h hs hr
 ·split at h
  ·exact hy st sy h hs hr
  ·rcases h with h|⟨sy1,hf,h⟩
   ·exact hy st sy h hs hr
   ·obtain⟨st1,s1,r1,b1⟩:=b9b hA hf hs hr;refine a4B (fun a' w' hl=>?_) (hy st1 sy1 h s1 r1);obtain⟨st2,sy2,hK,h2,hl⟩:=hl;exact⟨st2,sy2,hK,h2,hl.rel,⟨hl.fx.os,hl.fx.tape,hl.fx.output,hl.fx.size,fun i hi hn=>hl.fx.block i hi fun c hc=>hn c (b1 c hc)⟩,fun b hb=>(hl.bs b hb).imp (b1 b) id⟩
end
mutual
theorem c3m{ok:Nat→Prop}{w:World}{R:Bool→Nat→Prop}:∀(x y:D) (s:SV),leD x y→j5 ok w R x s→j5 ok w R y s
 |.v x,y,v,h,hr=>by
  simp only[leD]at h;rcases h with rfl|⟨rfl,z,rfl⟩
  ·exact hr
  ·simp only[j5,Rep]at hr⊢;exact⟨_,hr.1,none,0,rfl,y6 _,by simp,by simp,rfl,.inl rfl⟩
 |.agg l,y,v,h,hr=>by
  simp only[leD]at h;obtain⟨r,rfl,h⟩:=h;simp only[j5]at hr⊢;obtain⟨a,h1,h2,h3⟩:=hr;exact⟨a,h1,b4B l r _ h h2,b9T l r h h3⟩
 |.tup l,y,v,h,hr=>by
  simp only[leD]at h;obtain⟨r,rfl,h⟩:=h;simp only[j5]at hr⊢;rcases hr with⟨a,h1,h2⟩|⟨a,h1,h2⟩
  ·exact .inl ⟨a,h1,b4B l r _ h h2⟩
  ·exact .inr ⟨a,h1,b4B l r _ h h2⟩
 |.lst _ _ _,y,v,h,hr=>by simp only[leD]at h;subst h;exact hr
 |.ptr _ _,y,v,h,hr=>by simp only[leD]at h;subst h;exact hr
 |.mp _,y,v,h,hr=>by simp only[leD]at h;subst h;exact hr
 |.fn _ _ _,y,v,h,hr=>by simp only[leD]at h;subst h;exact hr
 |.own _ _,y,v,h,hr=>by simp only[leD]at h;subst h;exact hr
 |.ownx _ _,y,v,h,hr=>by simp only[leD]at h;subst h;exact hr
 |.row _ _,y,v,h,hr=>by simp only[leD]at h;subst h;exact hr
 |.elr _ _ _ _,y,v,h,hr=>by simp only[leD]at h;subst h;exact hr
 |.osl _ _ _ _ _,y,v,h,hr=>by simp only[leD]at h;subst h;exact hr
 |.und,y,v,h,hr=>by simp only[leD]at h;subst h;exact hr
 |.bad,y,v,h,hr=>by simp only[leD]at h;subst h;exact hr
theorem b4B{ok:Nat→Prop}{w:World}{R:Bool→Nat→Prop}:∀(l r:List D) (v:List SV),a4V l r→j9 ok w R l v→j9 ok w R r v
 |[],[],v,_,hr=>hr
 |x::l,y::r,v::vs,h,hr=>by
  simp only[a4V]at h;simp only[j9]at hr⊢;exact⟨c3m x y v h.1 hr.1,b4B l r vs h.2 hr.2⟩
 |_::_,_::_,[],_,hr=>by simp[j9]at hr
 |[],_::_,_,h,_=>by simp[a4V]at h
 |_::_,[],_,h,_=>by simp[a4V]at h
theorem b9T:∀(l r:List D),a4V l r→B4 l=true→B4 r=true
 |[],[],_,_=>rfl
 |x::l,y::r,h,hf=>by
  simp only[a4V]at h;have h1:=A9 hf C7
  have h2:a6F y=true:=by
   have h:=h.1;cases x<;>simp[a6F]at h1<;>simp only[leD]at h
   ·rcases h with rfl|⟨_,z,rfl⟩<;>rfl
   all_goals (subst h;rfl)
  simp only[B4,h2];exact b9T l r h.2 (M3 fun d hd=>A9 hf (F6 _ hd))
 |[],_::_,h,_=>by simp[a4V]at h
 |_::_,[],h,_=>by simp[a4V]at h
end
section
variable {A : Nat → Prop}{X : Cy}{w0 : World}{bor : List Nat}{st : St}{sy : Sy}{a : Act}{w : World}{Q : Exit → Act → World → Prop}
theorem c3d{ops:List Oper}{T:List (Nat×D)}{d:Nat}{x:D}(h:u0 (b2d ops T) d=some x)(hx:x≠ .bad):u0 T d=some x∧∀(T':List (Nat×SV)),A8 (a5Y ops T') d=A8 T' d:=by
 induction ops with
 |nil=>exact⟨h,fun _=>rfl⟩
 |cons o l ih=>
  simp only[b2d]at h;split at h
  ·rename_i d' ha hd;simp only[u0]at h;cases hb:Nat.beq d' d with
   |true=>rw[hb]at h;cases h;exact absurd rfl hx
   |false=>
    rw[hb]at h;obtain⟨h1,h2⟩:=ih h;refine⟨h1,fun T'=>?_⟩;simp only[a5Y,ha,hd,A8,hb];exact h2 T'
  ·rename_i hno;obtain⟨h1,h2⟩:=ih h;refine⟨h1,fun T'=>?_⟩;simp only[a5Y];exact h2 T'
theorem b5W{T:List (Nat×D)}{H:Hy}{nk:Nat}{T':List (Nat×SV)}{H':Hp}{nk' lo:Nat}{ws:World}{iv:List (Nat×Nat)}{ops:List Oper}(hs:Sim A ⟨T',H',nk',ws,lo,iv⟩ ⟨T,H,nk⟩):
 Sim A ⟨a5Y ops T',H',nk',ws,ws.heap.size,[]⟩ ⟨b2d ops T,H,nk⟩:=by
 have hok:∀b,okS A ⟨T',H',nk',ws,lo,iv⟩ b→okS A ⟨a5Y ops T',H',nk',ws,ws.heap.size,[]⟩ b∧ws.heap[b]?=ws.heap[b]?:=fun b hb=>⟨⟨⟨.inl hb.2.1,hb.1.2⟩,hb.2.1,hb.2.2⟩,rfl⟩
 refine⟨fun d x hx=>?_,fun k e he=>?_,hs.nk,fun j hj=>?_,hs.fH⟩
 ·by_cases hb:x=.bad
  ·exact .inl hb
  ·obtain⟨h1,h2⟩:=c3d hx hb;rcases hs.T d x h1 with h|⟨s,h3,h4⟩
   ·exact .inl h
   ·exact .inr ⟨s,by simp only[h2];exact h3,j5.mono hok (fun _ _ h=>h) _ _ h4⟩
 ·obtain⟨e',h1,h2⟩:=hs.H k e he;exact⟨e',h1,a3H.mono hok (fun _ _ h=>h) h2⟩
 ·have:=hs.fT j hj;simp only at this⊢;clear hs hok hj
  induction ops with
  |nil=>exact this
  |cons o l ih=>
   simp only[a5Y];split
   ·simp only[w8,ment];exact ih
   ·exact ih
mutual
def fwS:D→SV→SV
 |.row k _,_=>.row k
 |.agg l,s=>match a4Y s with|some cs=>.agg (fwL l cs)|none=>s
 |.tup l,.tup cs=>.tup (fwL l cs)
 |.tup l,.v (.tuple a)=>.tup (fwL l (vs a.toList))
 |.fn f x y,.fn _ a b=>.fn f (fwL x a) (fwL y b)
 |.fn f x y,.v (.func _ p q)=>.fn f (fwL x (vs p.toList)) (fwL y (vs q.toList))
 |_,s=>s
def fwL:List D→List SV→List SV
 |x::l,s::r=>fwS x s::fwL l r
 |_,_=>[]
end
def fwB:List D→List SV→List SV
 |.bad::l,_::r=>.bad::fwB l r
 |x::l,s::r=>fwS x s::fwB l r
 |_,_=>[]
def fwH(n:Nat)(H:Hp):Hy→Hp
 |[]=>[]
 |(k,.blk ds ty)::r=>(match l4 H k with|some (.blk b cs ty')=>(k,.blk b (fwB ds cs) ty')|_=>(k,.row (.slice none 0 0) 0 [] 0 ty))::fwH n H r
 |(k,.row z m l ty)::r=>(match Nat.blt k n,l4 H k with|true,some (.row v m' xs z' ty')=>(k,.row v m' xs z' ty')|_,_=>(k,.row (.slice none 0 0) 0 [] z ty))::fwH n H r
 |(k,.mp es ty)::r=>(match l4 H k with|some (.mp b es' ty')=>(k,.mp b es' ty')|_=>(k,.row (.slice none 0 0) 0 [] 0 0))::fwH n H r
def fwT(T:List (Nat×SV)):List (Nat×D)→List (Nat×SV)
 |[]=>[]
 |(d,x)::r=>(match A8 T d with|some s=>(d,fwS x s)|none=>(d,.bad))::fwT T r
def a5p(n:Nat):Hy→List (Option Nat)
 |[]=>[]
 |(k,.blk _ _)::r=>some k::a5p n r
 |(k,.row _ _ _ _)::r=>(match Nat.blt k n with|true=>some k|false=>none)::a5p n r
 |(k,.mp _ _)::r=>some k::a5p n r
structure c4u(ok:Nat→Prop)(w:World)(n:Nat)(ks:List Nat)(R R':Bool→Nat→Prop)(H H':Hp):Prop where
 R:∀q j,O2 j ks=true→j<n→R q j→R' q j
 old:∀j,O2 j ks=true→j<n→bOf H' j=bOf H j∧o5 H' j=o5 H j
 new:∀j,O2 j ks=true→¬j<n→R' true j∧o5 H' j=.slice none 0 0
theorem a0R{a b:Nat}:Nat.blt a b=true↔a<b:=by simp[a4p]
mutual
theorem c3P{ok:Nat→Prop}{w:World}{n:Nat}{ks:List Nat}{R R':Bool→Nat→Prop}{H H':Hp}(hz:c4u ok w n ks R R' H H'):∀(x:D) (s:SV),j5 ok w R (a2w n x) s→inK n ks x=true→j5 ok w R' x (fwS x s)∧den H' (fwS x s)=den H s
 |.v x,s,h,_=>by simp only[a2w]at h;simp only[fwS];refine⟨h,?_⟩;simp only[j5]at h;rw[h.1];rfl
 |.lst z m l,s,h,_=>by simp only[a2w]at h;simp only[fwS];refine⟨h,?_⟩;simp only[j5]at h;obtain⟨y,rfl,_⟩:=h;rfl
 |.ptr l o,s,h,_=>by simp only[a2w]at h;simp only[fwS];refine⟨h,?_⟩;simp only[j5]at h;obtain⟨y,rfl,_⟩:=h;rfl
 |.mp l,s,h,_=>by simp only[a2w]at h;simp only[fwS];refine⟨h,?_⟩;simp only[j5]at h;obtain⟨y,rfl,_⟩:=h;rfl
 |.und,s,h,_=>by simp only[a2w]at h;simp only[fwS];refine⟨h,?_⟩;simp only[j5]at h;rw[h];rfl
 |.bad,s,h,hk=>by simp[inK]at hk
 |.own j o,s,h,hk=>by
  simp only[a2w,j5]at h;simp only[inK]at hk;obtain⟨rfl,h⟩:=h;split at hk
  ·rename_i hb;have hj:=a0R.1 hb;simp only[fwS,j5];exact⟨⟨trivial,hz.R _ _ hk hj h⟩,by simp only[den,(hz.old j hk hj).1]⟩
  ·cases hk
 |.ownx j o,s,h,hk=>by
  simp only[a2w,j5]at h;simp only[inK]at hk;obtain⟨rfl,h⟩:=h;split at hk
  ·rename_i hb;have hj:=a0R.1 hb;simp only[fwS,j5];exact⟨⟨trivial,hz.R _ _ hk hj h⟩,by simp only[den,(hz.old j hk hj).1]⟩
  ·cases hk
 |.elr j z i o,s,h,hk=>by
  simp only[a2w,j5]at h;simp only[inK]at hk;obtain⟨rfl,h⟩:=h;split at hk
  ·rename_i hb;have hj:=a0R.1 hb;simp only[fwS,j5];exact⟨⟨trivial,hz.R _ _ hk hj h⟩,by simp only[den,(hz.old j hk hj).1]⟩
  ·cases hk
 |.osl j o z m c,s,h,hk=>by
  simp only[a2w,j5]at h;simp only[inK]at hk;obtain⟨rfl,h⟩:=h;split at hk
  ·rename_i hb;have hj:=a0R.1 hb;simp only[fwS,j5];exact⟨⟨trivial,hz.R _ _ hk hj h⟩,by simp only[den,(hz.old j hk hj).1,(hz.old j hk hj).2]⟩
  ·cases hk
 |.row j z,s,h,hk=>by
  simp only[inK]at hk;simp only[a2w]at h;simp only[fwS,j5];cases hb:Nat.blt j n with
  |true=>
   rw[hb]at h;simp only[j5]at h;obtain⟨rfl,h⟩:=h;have hj:=a0R.1 hb;exact⟨⟨trivial,hz.R _ _ hk hj h⟩,by simp only[den,(hz.old j hk hj).2]⟩
  |false=>
   rw[hb]at h;have hj:¬j<n:=fun h=>by rw[a0R.2 h]at hb;cases hb
   have:=h.sc;subst this;exact⟨⟨trivial,(hz.new j hk hj).1⟩,by simp only[den,(hz.new j hk hj).2]⟩
 |.agg l,s,h,hk=>by
  simp only[a2w,j5]at h;simp only[inK]at hk;obtain⟨cs,h1,h2,h3⟩:=h;obtain⟨g1,g2⟩:=a6g hz l cs h2 hk;simp only[fwS,h1,j5];refine⟨⟨_,rfl,g1,?_⟩,?_⟩
  ·refine M3 fun d hd=>?_
   have:∀l:List D,B4 (a3o n l)=true→∀d∈l,a6F d=true:=by
    intro l
    induction l with
    |nil=>simp
    |cons x l ih=>
     intro hf d hd;have h0:a6F (a2w n x)=true:=A9 hf C7;rcases u9.1 hd with rfl|hd
     ·cases d<;>simp[a2w,a6F]at h0⊢
     ·exact ih (M3 fun d hd=>A9 hf (F6 _ hd)) d hd
   exact this l h3 d hd
  ·cases s<;>simp[a4Y]at h1
   ·rename_i y;cases y<;>simp at h1;subst h1;rw[H9]at g2;simp[den,g2]
   ·subst h1;simp[den,g2]
 |.tup l,s,h,hk=>by
  simp only[a2w,j5]at h;simp only[inK]at hk;rcases h with⟨cs,rfl,h2⟩|⟨a,rfl,h2⟩
  ·obtain⟨g1,g2⟩:=a6g hz l cs h2 hk;simp only[fwS,j5];exact⟨.inl ⟨_,rfl,g1⟩,by simp[den,g2]⟩
  ·obtain⟨g1,g2⟩:=a6g hz l _ h2 hk;rw[H9]at g2;simp only[fwS,j5];exact⟨.inl ⟨_,rfl,g1⟩,by simp[den,g2]⟩
 |.fn f x y,s,h,hk=>by
  simp only[a2w,j5]at h;simp only[inK]at hk;split at hk
  ·rename_i hx;rcases h with⟨p,q,rfl,h2,h3⟩|⟨p,q,rfl,h2,h3⟩
   ·obtain⟨g1,g2⟩:=a6g hz x p h2 hx;obtain⟨g3,g4⟩:=a6g hz y q h3 hk;simp only[fwS,j5];exact⟨.inl ⟨_,_,rfl,g1,g3⟩,by simp[den,g2,g4]⟩
   ·obtain⟨g1,g2⟩:=a6g hz x _ h2 hx;obtain⟨g3,g4⟩:=a6g hz y _ h3 hk;rw[H9]at g2 g4;simp only[fwS,j5];exact⟨.inl ⟨_,_,rfl,g1,g3⟩,by simp[den,g2,g4]⟩
  ·cases hk
theorem a6g{ok:Nat→Prop}{w:World}{n:Nat}{ks:List Nat}{R R':Bool→Nat→Prop}{H H':Hp}(hz:c4u ok w n ks R R' H H'):∀(l:List D) (r:List SV),j9 ok w R (a3o n l) r→c3g n ks l=true→j9 ok w R' l (fwL l r)∧o6 H' (fwL l r)=o6 H r
 |[],[],_,_=>⟨trivial,rfl⟩
 |x::l,s::r,h,hk=>by
  simp only[a3o,j9]at h;simp only[c3g]at hk;split at hk
  ·rename_i hx;obtain⟨g1,g2⟩:=c3P hz x s h.1 hx;obtain⟨g3,g4⟩:=a6g hz l r h.2 hk;simp only[fwL];exact⟨⟨g1,g3⟩,by simp[o6,g2,g4]⟩
  ·cases hk
 |[],_::_,h,_=>by simp[a3o,j9]at h
 |_::_,[],h,_=>by simp[a3o,j9]at h
end
def b2X(ok:Nat→Prop)(w:World)(R:Bool→Nat→Prop):List D→List SV→Prop
 |[],[]=>True
 |.bad::l,_::r=>b2X ok w R l r
 |x::l,s::r=>j5 ok w R x s∧b2X ok w R l r
 |_,_=>False
theorem b9C{ok:Nat→Prop}{w:World}{R:Bool→Nat→Prop}:∀(l r:List D) (v:List SV),b1y l r→j9 ok w R l v→b2X ok w R r v
 |[],[],[],_,_=>trivial
 |x::l,y::r,v::vs,h,hr=>by
  simp only[j9]at hr;cases y<;>simp only[b1y]at h<;>simp only[b2X]
  case bad=>exact b9C l r vs h hr.2
  all_goals exact⟨c3m x _ v h.1 hr.1,b9C l r vs h.2 hr.2⟩
 |_::_,[],_,h,_=>by simp[b1y]at h
 |[],y::_,_,h,_=>by cases y<;>simp[b1y]at h
 |_::_,_::_,[],_,hr=>by simp[j9]at hr
 |[],[],_::_,_,hr=>by simp[j9]at hr
theorem b1N{ok:Nat→Prop}{w:World}{n:Nat}{ks:List Nat}{R R':Bool→Nat→Prop}{H H':Hp}(hz:c4u ok w n ks R R' H H'):∀(l:List D) (r:List SV),b2X ok w R (a3o n l) r→c0j n ks l=true→j9 ok w R' l (fwB l r)∧c0G H H' r (fwB l r)
 |[],[],_,_=>⟨trivial,trivial⟩
 |[],_::_,h,_=>by simp[a3o,b2X]at h
 |x::l,[],h,_=>by
  simp only[a3o]at h;cases hx:a2w n x<;>rw[hx]at h<;>simp[b2X]at h
 |x::l,s::r,h,hk=>by
  have gen:x≠ .bad→(b2X ok w R (a2w n x::a3o n l) (s::r)→j5 ok w R (a2w n x) s∧b2X ok w R (a3o n l) r)→(inK n ks x=true∧a6F x=true∧c0j n ks l=true)→fwB (x::l) (s::r)=fwS x s::fwB l r→j9 ok w R' (x::l) (fwB (x::l) (s::r))∧c0G H H' (s::r) (fwB (x::l) (s::r)):=by
   intro hb h1 h2 h3;obtain⟨g1,g2⟩:=h1 h;obtain⟨k1,k2,k3⟩:=h2;obtain⟨q1,q2⟩:=c3P hz x s g1 k1;obtain⟨q3,q4⟩:=b1N hz l r g2 k3;rw[h3];refine⟨⟨q1,q3⟩,.inr ⟨j5.ne g1 ?_,q2.symm⟩,q4⟩;cases x<;>simp only[a2w]<;>first|exact absurd rfl hb|(split<;>simp)|simp
  cases x
  case bad=>
   simp only[a3o,a2w,b2X]at h;simp only[c0j]at hk;obtain⟨q3,q4⟩:=b1N hz l r h hk;simp only[fwB];exact⟨⟨by simp only[j5],q3⟩,.inl rfl,q4⟩
  case row k z=>
   refine gen (by simp) (fun h=>?_) ?_ rfl
   ·simp only[a2w]at h⊢;split at h<;>simpa only[b2X]using h
   ·simp only[c0j]at hk;split at hk
    ·rename_i h1 h2;exact⟨h1,h2,hk⟩
    ·cases hk
  all_goals
   refine gen (by simp) (fun h=>by simpa only[a2w,b2X]using h) ?_ rfl
   simp only[c0j]at hk;split at hk
   ·rename_i h1 h2;exact⟨h1,h2,hk⟩
   ·cases hk
end
theorem a6Y(a b k:Nat):(k=a∧swN a b k=b)∨(k≠a∧k=b∧swN a b k=a)∨(k≠a∧k≠b∧swN a b k=k):=by
 unfold swN;by_cases h:k=a
 ·subst h;left;simp
 ·by_cases h2:k=b
  ·subst h2;right;left;simp[S9 h,h]
  ·right;right;simp[S9 h,S9 h2,h,h2]
theorem a4Z(a b k:Nat):swN a b (swN a b k)=k:=by
 rcases a6Y a b k with⟨h,e⟩|⟨h,h2,e⟩|⟨h,h2,e⟩<;>rw[e]
 ·rcases a6Y a b b with⟨g,e2⟩|⟨g,g2,e2⟩|⟨g,g2,e2⟩<;>rw[e2]
  ·rw[h,g]
  ·exact h.symm
  ·exact absurd rfl g2
 ·rcases a6Y a b a with⟨g,e2⟩|⟨g,g2,e2⟩|⟨g,g2,e2⟩<;>rw[e2]
  ·exact h2.symm
  ·exact absurd rfl g
  ·exact absurd rfl g
 ·exact e
theorem c4A{a b j k:Nat}(h:swN a b j=swN a b k):j=k:=by rw[←a4Z a b j,h,a4Z]
theorem a9R(a b j k:Nat):Nat.beq (swN a b j) (swN a b k)=Nat.beq j k:=by
 by_cases h:j=k
 ·subst h;simp
 ·rw[S9 h,S9 fun e=>h (c4A e)]
theorem c7b{a b k m:Nat}(ha:a<m)(hb:b<m):swN a b k<m↔k<m:=by
 rcases a6Y a b k with⟨h,e⟩|⟨h,h2,e⟩|⟨h,h2,e⟩<;>rw[e]<;>omega
theorem c8d{a b k m:Nat}(ha:a<m)(hb:b<m)(hk:m≤k):swN a b k=k:=by
 rcases a6Y a b k with⟨h,e⟩|⟨h,h2,e⟩|⟨h,h2,e⟩<;>first|omega|exact e
mutual
theorem c4W(a b:Nat):∀x:D,swD a b (swD a b x)=x
 |.own k o=>by simp only[swD,a4Z]
 |.ownx k o=>by simp only[swD,a4Z]
 |.row k z=>by simp only[swD,a4Z]
 |.elr k z i o=>by simp only[swD,a4Z]
 |.osl k o z n c=>by simp only[swD,a4Z]
 |.agg l=>by simp only[swD,a7a]
 |.tup l=>by simp only[swD,a7a]
 |.fn f p q=>by simp only[swD,a7a]
 |.v x=>rfl
 |.lst z n l=>rfl
 |.ptr l o=>rfl
 |.mp l=>rfl
 |.und=>rfl
 |.bad=>rfl
theorem a7a(a b:Nat):∀l:List D,b2E a b (b2E a b l)=l
 |[]=>rfl
 |x::l=>by simp only[b2E,c4W,a7a]
end
theorem b7K(a b:Nat):∀T,b7i a b (b7i a b T)=T
 |[]=>rfl
 |(d,x)::T=>by simp only[b7i,c4W,b7K]
theorem b7D(a b:Nat):∀H,b7b a b (b7b a b H)=H
 |[]=>rfl
 |(k,e)::H=>by cases e<;>simp only[b7b,swE,a4Z,a7a,b7D]
mutual
def swS(a b:Nat):SV→SV
 |.own k o=>.own (swN a b k) o
 |.ownx k o=>.ownx (swN a b k) o
 |.osl k o n c=>.osl (swN a b k) o n c
 |.row k=>.row (swN a b k)
 |.agg l=>.agg (a7d a b l)
 |.tup l=>.tup (a7d a b l)
 |.fn f p q=>.fn f (a7d a b p) (a7d a b q)
 |.v x=>.v x
 |.bad=>.bad
def a7d(a b:Nat):List SV→List SV
 |[]=>[]
 |x::l=>swS a b x::a7d a b l
end
def b7j(a b:Nat):Ent→Ent
 |.blk n cs ty=>.blk n (a7d a b cs) ty
 |.row v n xs sz ty=>.row v n xs sz ty
 |.mp n es ty=>.mp n es ty
def swT(a b:Nat):List (Nat×SV)→List (Nat×SV)
 |[]=>[]
 |(d,x)::T=>(d,swS a b x)::swT a b T
def swH(a b:Nat):Hp→Hp
 |[]=>[]
 |(k,e)::H=>(swN a b k,b7j a b e)::swH a b H
theorem b4D(a b:Nat):∀l,a7d a b (vs l)=vs l
 |[]=>rfl
 |x::l=>by simp only[vs,a7d,swS,b4D]
section
variable {a b : Nat}{H : Hp}
theorem a9o(k:Nat):∀H,l4 (swH a b H) (swN a b k)=(l4 H k).map (b7j a b)
 |[]=>rfl
 |(j,e)::H=>by
  simp only[swH,l4,a9R];cases Nat.beq j k with
  |true=>rfl
  |false=>exact a9o k H
theorem c0E(k:Nat):∀H:Hy,m7 (b7b a b H) (swN a b k)=(m7 H k).map (swE a b)
 |[]=>rfl
 |(j,e)::H=>by
  simp only[b7b,m7,a9R];cases Nat.beq j k with
  |true=>rfl
  |false=>exact c0E k H
theorem b9a(d:Nat):∀T,A8 (swT a b T) d=(A8 T d).map (swS a b)
 |[]=>rfl
 |(j,e)::T=>by
  simp only[swT,A8];cases Nat.beq j d with
  |true=>rfl
  |false=>exact b9a d T
theorem c0N(d:Nat):∀T,u0 (b7i a b T) d=(u0 T d).map (swD a b)
 |[]=>rfl
 |(j,e)::T=>by
  simp only[b7i,u0];cases Nat.beq j d with
  |true=>rfl
  |false=>exact c0N d T
theorem c3H(k:Nat):bOf (swH a b H) (swN a b k)=bOf H k:=by
 unfold bOf;rw[a9o];cases l4 H k with
 |none=>rfl
 |some e=>cases e<;>rfl
theorem b7I(k:Nat):o5 (swH a b H) (swN a b k)=o5 H k:=by
 unfold o5;rw[a9o];cases l4 H k with
 |none=>rfl
 |some e=>cases e<;>rfl
mutual
theorem c2S:∀s:SV,den (swH a b H) (swS a b s)=den H s
 |.own k o=>by simp only[swS,den,c3H]
 |.ownx k o=>by simp only[swS,den,c3H]
 |.osl k o n c=>by simp only[swS,den,c3H,b7I]
 |.row k=>by simp only[swS,den,b7I]
 |.agg l=>by simp only[swS,den,b2n l]
 |.tup l=>by simp only[swS,den,b2n l]
 |.fn f p q=>by simp only[swS,den,b2n p,b2n q]
 |.v x=>rfl
 |.bad=>rfl
theorem b2n:∀l:List SV,o6 (swH a b H) (a7d a b l)=o6 H l
 |[]=>rfl
 |x::l=>by simp only[a7d,o6,c2S x,b2n l]
end
theorem b8C:∀ {l:List SV}{xs:List Value},q8 H l xs→q8 (swH a b H) (a7d a b l) xs
 |[],[],_=>trivial
 |s::l,x::r,h=>by
  simp only[q8,a7d]at h⊢;refine⟨?_,b8C h.2⟩;rcases h.1 with h|h
  ·left;rw[h];rfl
  ·right;rw[h,c2S]
 |[],_::_,h=>by simp[q8]at h
 |_::_,[],h=>by simp[q8]at h
theorem b8y:∀H,bs (swH a b H)=bs H
 |[]=>rfl
 |(k,e)::H=>by cases e<;>simp only[swH,bs,b7j,bsE,b8y H]
theorem c4X:∀H,(swH a b H).map (·.1)=(H.map (·.1)).map (swN a b)
 |[]=>rfl
 |(k,e)::H=>by simp only[swH,H7,c4X H]
theorem c3B:∀ {H:Hp}{k:Nat}{e:Ent},(k,e)∈swH a b H→∃k0 e0,(k0,e0)∈H∧k=swN a b k0∧e=b7j a b e0
 |[],_,_,h=>by simp[swH]at h
 |(j,f)::H,k,e,h=>by
  simp only[swH,u9,a5l]at h;rcases h with⟨rfl,rfl⟩|h
  ·exact⟨j,f,C7,rfl,rfl⟩
  ·obtain⟨k0,e0,h1,h2⟩:=c3B h;exact⟨k0,e0,F6 _ h1,h2⟩
mutual
theorem c4z(j:Nat):∀s:SV,ment (swN a b j) (swS a b s)=ment j s
 |.own k o=>by simp only[swS,ment,a9R]
 |.ownx k o=>by simp only[swS,ment,a9R]
 |.osl k o n c=>by simp only[swS,ment,a9R]
 |.row k=>by simp only[swS,ment,a9R]
 |.agg l=>by simp only[swS,ment,a6Z j l]
 |.tup l=>by simp only[swS,ment,a6Z j l]
 |.fn f p q=>by simp only[swS,ment,a6Z j p,a6Z j q]
 |.v x=>rfl
 |.bad=>rfl
theorem a6Z(j:Nat):∀l:List SV,I2 (swN a b j) (a7d a b l)=I2 j l
 |[]=>rfl
 |x::l=>by simp only[a7d,I2,c4z j x,a6Z j l]
end
theorem b8v(j:Nat):∀T,w8 (swN a b j) (swT a b T)=w8 j T
 |[]=>rfl
 |(d,s)::T=>by simp only[swT,w8,c4z,b8v j T]
theorem a9F(j:Nat):∀H,A7 (swN a b j) (swH a b H)=A7 j H
 |[]=>rfl
 |(k,.blk n cs ty)::H=>by simp only[swH,b7j,A7,a6Z,a9F j H]
 |(k,.row v n xs sz ty)::H=>by simp only[swH,b7j,A7,a9F j H]
 |(k,.mp n es ty)::H=>by simp only[swH,b7j,A7,a9F j H]
end
mutual
theorem c4r{ok:Nat→Prop}{w:World}{R R':Bool→Nat→Prop}{a b:Nat}(hR:∀q k,R q k→R' q (swN a b k)):∀(d:D) (s:SV),j5 ok w R d s→j5 ok w R' (swD a b d) (swS a b s)
 |.v x,s,h=>by simp only[j5]at h;obtain⟨rfl,h⟩:=h;simp only[swD,swS,j5];exact⟨trivial,h⟩
 |.agg l,s,h=>by
  simp only[j5]at h;obtain⟨cs,h1,h2,h3⟩:=h;simp only[swD,j5];refine⟨a7d a b cs,?_,a3f hR l cs h2,c4U l h3⟩;unfold a4Y at h1⊢;cases s with
  |agg l'=>simp only[Y9]at h1;subst h1;rfl
  |v x=>cases x<;>first|(simp only[Y9]at h1;subst h1;simp only[swS,b4D])|cases h1
  |_=>cases h1
 |.lst z n l,s,h=>by simp only[j5]at h;obtain⟨y,rfl,h⟩:=h;simp only[swD,swS,j5];exact⟨y,rfl,h⟩
 |.ptr l o,s,h=>by simp only[j5]at h;obtain⟨y,rfl,h⟩:=h;simp only[swD,swS,j5];exact⟨y,rfl,h⟩
 |.mp l,s,h=>by simp only[j5]at h;obtain⟨y,rfl,h⟩:=h;simp only[swD,swS,j5];exact⟨y,rfl,h⟩
 |.own k o,s,h=>by simp only[j5]at h;obtain⟨rfl,h⟩:=h;simp only[swD,swS,j5];exact⟨trivial,hR _ _ h⟩
 |.ownx k o,s,h=>by simp only[j5]at h;obtain⟨rfl,h⟩:=h;simp only[swD,swS,j5];exact⟨trivial,hR _ _ h⟩
 |.row k z,s,h=>by simp only[j5]at h;obtain⟨rfl,h⟩:=h;simp only[swD,swS,j5];exact⟨trivial,hR _ _ h⟩
 |.elr k z i o,s,h=>by simp only[j5]at h;obtain⟨rfl,h⟩:=h;simp only[swD,swS,j5];exact⟨trivial,hR _ _ h⟩
 |.osl k o z n c,s,h=>by simp only[j5]at h;obtain⟨rfl,h⟩:=h;simp only[swD,swS,j5];exact⟨trivial,hR _ _ h⟩
 |.tup l,s,h=>by
  simp only[j5]at h;simp only[swD,j5];rcases h with⟨cs,rfl,h⟩|⟨x,rfl,h⟩
  ·exact .inl ⟨a7d a b cs,by simp only[swS],a3f hR l cs h⟩
  ·have:=a3f hR l _ h;rw[b4D]at this;exact .inr ⟨x,by simp only[swS],this⟩
 |.fn f p q,s,h=>by
  simp only[j5]at h;simp only[swD,j5];rcases h with⟨x,y,rfl,h1,h2⟩|⟨x,y,rfl,h1,h2⟩
  ·exact .inl ⟨a7d a b x,a7d a b y,by simp only[swS],a3f hR p x h1,a3f hR q y h2⟩
  ·have h1:=a3f hR p _ h1;have h2:=a3f hR q _ h2;rw[b4D]at h1 h2;exact .inr ⟨x,y,by simp only[swS],h1,h2⟩
 |.und,s,h=>by simp only[j5]at h;subst h;simp only[swD,swS,j5]
 |.bad,s,h=>by simp only[j5]at h;subst h;simp only[swD,swS,j5]
theorem a3f{ok:Nat→Prop}{w:World}{R R':Bool→Nat→Prop}{a b:Nat}(hR:∀q k,R q k→R' q (swN a b k)):∀(l:List D) (r:List SV),j9 ok w R l r→j9 ok w R' (b2E a b l) (a7d a b r)
 |[],[],_=>trivial
 |d::l,y::r,h=>by
  simp only[j9]at h;simp only[b2E,a7d,j9];exact⟨c4r hR d y h.1,a3f hR l r h.2⟩
 |[],_::_,h=>by simp[j9]at h
 |_::_,[],h=>by simp[j9]at h
theorem c4U{a b:Nat}:∀l:List D,B4 l=true→B4 (b2E a b l)=true
 |[],_=>rfl
 |x::l,h=>by
  cases x<;>simp only[b2E,swD,B4,a6F]at h⊢<;>first|exact c4U l h|exact h
end
def a7K(a b:Nat)(st:St):St:=⟨swT a b st.T,swH a b st.H,st.nk,st.w,st.lo,st.iv⟩
theorem d2y{A:Nat→Prop}{X:Cx}{st:St}{sy:Sy}{ac:Act}{w:World}{a b:Nat}(ha:a<st.nk)(hb:b<st.nk)(hs:Sim A st sy)(hr:Rel X st ac w):
 Sim A (a7K a b st) ⟨b7i a b sy.T,b7b a b sy.H,sy.nk⟩∧Rel X (a7K a b st) ac w:=by
 have hok:okS A (a7K a b st)=okS A st:=by
  funext c;simp only[okS,a7K,c1z,b8y]
 have hkey:∀q k,B0 st q k→B0 (a7K a b st) q (swN a b k):=by
  intro q k h;refine⟨(c7b ha hb).2 h.1,fun hq=>?_⟩;obtain⟨e,h1,h2⟩:=h.2 hq;refine⟨b7j a b e,by simp only[a7K];rw[a9o,h1];rfl,?_⟩;cases e<;>exact h2
 refine⟨⟨fun d x hx=>?_,fun k e he=>?_,hs.nk,fun j hj=>?_,fun j hj=>?_⟩,⟨hr.size,fun d s hd=>?_,hr.dfs,?_,hr.lo,hr.iv⟩⟩
 ·simp only[c0N]at hx;cases hl:u0 sy.T d with
  |none=>rw[hl]at hx;cases hx
  |some y=>
   rw[hl]at hx;cases hx;rcases hs.T d y hl with rfl|⟨s,h1,h2⟩
   ·left;simp only[swD]
   ·right;refine⟨swS a b s,by simp only[a7K];rw[b9a,h1];rfl,?_⟩;rw[hok];exact c4r hkey _ _ h2
 ·obtain⟨k,rfl⟩:∃j,k=swN a b j:=⟨swN a b k,(a4Z _ _ _).symm⟩;simp only[c0E]at he;cases hl:m7 sy.H k with
  |none=>rw[hl]at he;cases he
  |some y=>
   rw[hl]at he;cases he;obtain⟨e',h1,h2⟩:=hs.H k y hl;refine⟨b7j a b e',by simp only[a7K];rw[a9o,h1];rfl,?_⟩;rw[hok];cases y<;>cases e'<;>simp only[a3H,swE,b7j]at h2⊢
   ·exact⟨h2.1,a3f hkey _ _ h2.2⟩
   ·exact h2
   ·exact h2
 ·simp only[a7K]at hj⊢;rw[←c8d ha hb hj,b8v];exact hs.fT j hj
 ·simp only[a7K]at hj⊢;rw[←c8d ha hb hj,a9F];exact hs.fH j hj
 ·simp only[a7K,b9a]at hd;cases hl:A8 st.T d with
  |none=>rw[hl]at hd;cases hd
  |some y=>
   rw[hl]at hd;cases hd;rcases hr.T d y hl with rfl|h
   ·left;simp only[swS]
   ·right;rw[h];simp only[a7K,c2S]
 ·have hc:=hr.cls;refine⟨by simp only[a7K,b8y];exact hc.fx,hc.fx0,fun k e hm=>?_,by simp only[a7K,b8y];exact hc.nd,by simp only[a7K,b8y];exact hc.lb,?_,fun k e hm=>?_⟩
  ·simp only[a7K]at hm⊢;obtain⟨k0,e0,h1,rfl,rfl⟩:=c3B hm;have h:=hc.own k0 e0 h1;cases e0 with
   |blk n cs ty=>obtain⟨xs,g1,g2⟩:=h;exact⟨xs,b8C g1,g2⟩
   |row=>exact h
   |mp=>exact h
  ·simp only[a7K,c4X];exact List.pairwise_map.2 (hc.keys.imp fun h e=>h (c4A e))
  ·simp only[a7K]at hm⊢;obtain⟨k0,e0,h1,rfl,rfl⟩:=c3B hm;exact(c7b ha hb).2 (hc.lt k0 e0 h1)
section
variable {A : Nat → Prop}{X : Cy}{w0 : World}{bor : List Nat}{st : St}{sy : Sy}{a : Act}{w : World}{Q : Exit → Act → World → Prop}
theorem b4y{n:Nat}{H:Hp}:∀(Hd:Hy),(fwH n H Hd).map (·.1)=a0A Hd
 |[]=>rfl
 |(k,.blk ds ty)::r=>by
  simp only[fwH,a0A,H7,b4y r];congr 1;split<;>rfl
 |(k,.row z m l ty)::r=>by
  simp only[fwH,a0A,H7,b4y r];congr 1;split<;>rfl
 |(k,.mp es ty)::r=>by
  simp only[fwH,a0A,H7,b4y r];congr 1;split<;>rfl
theorem a7j{k:Nat}:∀ {H:Hy},O2 k (a0A H)=true→∃e,m7 H k=some e
 |[],h=>by simp[a0A,O2]at h
 |(j,e)::r,h=>by
  simp only[a0A,O2]at h;simp only[m7];cases hb:Nat.beq j k with
  |true=>exact⟨e,rfl⟩
  |false=>
   rw[hb]at h;exact a7j h
theorem b3m{n:Nat}{H:Hp}{k b:Nat}{cs:List SV}{ty ty0:TypeId}{ds:List D}(hf:l4 H k=some (.blk b cs ty)):∀ {Hd:Hy},m7 Hd k=some (.blk ds ty0)→l4 (fwH n H Hd) k=some (.blk b (fwB ds cs) ty)
 |[],h=>by simp[m7]at h
 |(j,e)::r,h=>by
  simp only[m7]at h;cases hb:Nat.beq j k with
  |true=>
   rw[hb]at h;cases h;have:=z7 hb;subst this;simp only[fwH,hf,l4,hb]
  |false=>
   rw[hb]at h;have ih:=b3m hf (n:=n) h;cases e with
   |blk d t=>
    simp only[fwH];split<;>simp only[l4,hb]<;>exact ih
   |row z m l t=>
    simp only[fwH];split<;>simp only[l4,hb]<;>exact ih
   |mp es t=>
    simp only[fwH];split<;>simp only[l4,hb]<;>exact ih
theorem b3A{n:Nat}{H:Hp}{k z m z' m':Nat}{l:List D}{v:Value}{xs:List Value}{ty ty':TypeId}(hb0:Nat.blt k n=true)(hf:l4 H k=some (.row v m' xs z' ty')):∀ {Hd:Hy},m7 Hd k=some (.row z m l ty)→l4 (fwH n H Hd) k=some (.row v m' xs z' ty')
 |[],h=>by simp[m7]at h
 |(j,e)::r,h=>by
  simp only[m7]at h;cases hb:Nat.beq j k with
  |true=>
   rw[hb]at h;cases h;have:=z7 hb;subst this;simp only[fwH,hf,hb0,l4,hb]
  |false=>
   rw[hb]at h;have ih:=b3A hb0 hf (n:=n) h;cases e with
   |blk d t=>
    simp only[fwH];split<;>simp only[l4,hb]<;>exact ih
   |row z m l t=>
    simp only[fwH];split<;>simp only[l4,hb]<;>exact ih
   |mp es t=>
    simp only[fwH];split<;>simp only[l4,hb]<;>exact ih
theorem b4T{n:Nat}{H:Hp}{k b:Nat}{es es0:List (Value×Value)}{ty ty':MTy}(hf:l4 H k=some (.mp b es0 ty')):∀ {Hd:Hy},m7 Hd k=some (.mp es ty)→l4 (fwH n H Hd) k=some (.mp b es0 ty')
 |[],h=>by simp[m7]at h
 |(j,e)::r,h=>by
  simp only[m7]at h;cases hb:Nat.beq j k with
  |true=>
   rw[hb]at h;cases h;have:=z7 hb;subst this;simp only[fwH,hf,l4,hb]
  |false=>
   rw[hb]at h;have ih:=b4T hf (n:=n) h;cases e with
   |blk d t=>
    simp only[fwH];split<;>simp only[l4,hb]<;>exact ih
   |row z m l t=>
    simp only[fwH];split<;>simp only[l4,hb]<;>exact ih
   |mp es t=>
    simp only[fwH];split<;>simp only[l4,hb]<;>exact ih
theorem b3F{n:Nat}{H:Hp}{k z m:Nat}{l:List D}{ty:TypeId}(hb0:Nat.blt k n=false):∀ {Hd:Hy},m7 Hd k=some (.row z m l ty)→l4 (fwH n H Hd) k=some (.row (.slice none 0 0) 0 [] z ty)
 |[],h=>by simp[m7]at h
 |(j,e)::r,h=>by
  simp only[m7]at h;cases hb:Nat.beq j k with
  |true=>
   rw[hb]at h;cases h;have:=z7 hb;subst this;simp only[fwH,hb0,l4,hb]
  |false=>
   rw[hb]at h;have ih:=b3F hb0 (n:=n) (H:=H) h;cases e with
   |blk d t=>
    simp only[fwH];split<;>simp only[l4,hb]<;>exact ih
   |row z m l t=>
    simp only[fwH];split<;>simp only[l4,hb]<;>exact ih
   |mp es t=>
    simp only[fwH];split<;>simp only[l4,hb]<;>exact ih
theorem b0Y{n:Nat}{H:Hy}{k:Nat}{e:E}:∀ {Hd:Hy},b0q n H Hd→m7 Hd k=some e→b8j n H k e
 |[],_,h=>by simp[m7]at h
 |(j,e')::r,hs,h=>by
  simp only[b0q]at hs;simp only[m7]at h;cases hb:Nat.beq j k with
  |true=>rw[hb]at h;cases h;have:=z7 hb;subst this;exact hs.1
  |false=>rw[hb]at h;exact b0Y hs.2 h
theorem a3P{n:Nat}{ks:List Nat}{k:Nat}{ds:List D}{ty:TypeId}:∀ {Hd:Hy},b4g n ks Hd=true→m7 Hd k=some (.blk ds ty)→k<n∧c0j n ks ds=true
 |[],_,h=>by simp[m7]at h
 |(j,.blk d t)::r,hs,h=>by
  simp only[b4g]at hs;split at hs
  ·rename_i h1 h2;simp only[m7]at h;cases hb:Nat.beq j k with
   |true=>rw[hb]at h;cases h;have:=z7 hb;subst this;exact⟨a0R.1 h1,h2⟩
   |false=>rw[hb]at h;exact a3P hs h
  ·cases hs
 |(j,.row z m l t)::r,hs,h=>by
  simp only[b4g]at hs;simp only[m7]at h;cases hb:Nat.beq j k with
  |true=>rw[hb]at h;cases h
  |false=>rw[hb]at h;exact a3P hs h
 |(j,.mp es t)::r,hs,h=>by
  simp only[b4g]at hs;split at hs
  ·simp only[m7]at h;cases hb:Nat.beq j k with
   |true=>rw[hb]at h;cases h
   |false=>rw[hb]at h;exact a3P hs h
  ·cases hs
theorem b4F{n:Nat}{ks:List Nat}{k:Nat}{es:List (Value×Value)}{ty:MTy}:∀ {Hd:Hy},b4g n ks Hd=true→m7 Hd k=some (.mp es ty)→k<n
 |[],_,h=>by simp[m7]at h
 |(j,.blk d t)::r,hs,h=>by
  simp only[b4g]at hs;split at hs
  ·simp only[m7]at h;cases hb:Nat.beq j k with
   |true=>rw[hb]at h;cases h
   |false=>rw[hb]at h;exact b4F hs h
  ·cases hs
 |(j,.row z m l t)::r,hs,h=>by
  simp only[b4g]at hs;simp only[m7]at h;cases hb:Nat.beq j k with
  |true=>rw[hb]at h;cases h
  |false=>rw[hb]at h;exact b4F hs h
 |(j,.mp es t)::r,hs,h=>by
  simp only[b4g]at hs;split at hs
  ·rename_i h1;simp only[m7]at h;cases hb:Nat.beq j k with
   |true=>have:=z7 hb;subst this;exact a0R.1 h1
   |false=>rw[hb]at h;exact b4F hs h
  ·cases hs
theorem b7v{l:List Nat}(h:ndB l=true):l.Nodup:=d1x h
theorem c1N{T:List (Nat×SV)}{d:Nat}:∀ {Td:List (Nat×D)}{x:D}{s:SV},u0 Td d=some x→A8 T d=some s→A8 (fwT T Td) d=some (fwS x s)
 |[],_,_,h,_=>by simp[u0]at h
 |(i,y)::r,x,s,h,hl=>by
  simp only[u0]at h;cases hb:Nat.beq i d with
  |true=>
   rw[hb]at h;cases h;have:=z7 hb;subst this;simp only[fwT,hl,A8,hb]
  |false=>
   rw[hb]at h;simp only[fwT];split<;>simp only[A8,hb]<;>exact c1N h hl
theorem b8s{n:Nat}{ks:List Nat}:∀ {Td:List (Nat×D)},c9R n ks Td=true→∀p,p∈Td→inK n ks p.2=true
 |[],_,_,h=>by cases h
 |(i,y)::r,hs,p,h=>by
  simp only[c9R]at hs;split at hs
  ·rename_i h1;rcases u9.1 h with rfl|h
   ·exact h1
   ·exact b8s hs p h
  ·cases hs
theorem b9B{n:Nat}:∀ {H:Hy},ltY n H=true→∀k,k∈a0A H→k<n
 |[],_,_,h=>by cases h
 |(j,e)::r,hs,k,h=>by
  simp only[ltY]at hs;split at hs
  ·rename_i hb;simp only[a0A]at h;rcases u9.1 h with rfl|h
   ·exact a0R.1 hb
   ·exact b9B hs k h
  ·cases hs
theorem c6u{H:Hy}{k:Nat}{e:E}(h:m7 H k=some e):(k,e)∈H:=by
 induction H with
 |nil=>simp[m7]at h
 |cons x H ih=>
  obtain⟨j,e'⟩:=x;simp only[m7]at h;cases hb:Nat.beq j k with
  |true=>rw[hb]at h;cases h;rw[z7 hb];exact C7
  |false=>rw[hb]at h;exact F6 _ (ih h)
theorem b7W{H:Hy}{k:Nat}{e:E}(h:(k,e)∈H):k∈a0A H:=by
 induction H with
 |nil=>cases h
 |cons x H ih=>
  obtain⟨j,e'⟩:=x;simp only[a0A];rcases u9.1 h with h|h
  ·cases h;exact C7
  ·exact F6 _ (ih h)
theorem b1G{H:Hy}(hn:(a0A H).Nodup){k:Nat}{e:E}(h:(k,e)∈H):m7 H k=some e:=by
 induction H with
 |nil=>cases h
 |cons x H ih=>
  obtain⟨j,e'⟩:=x;simp only[a0A,a4i]at hn;simp only[m7];rcases u9.1 h with h|h
  ·cases h;simp
  ·have hk:=b7W h;have:j≠k:=fun e=>hn.1 (e▸hk)
   rw[S9 this];exact ih hn.2 h
theorem c5v{T:List (Nat×D)}{d:Nat}{x:D}(hx:u0 T d=some x):(d,x)∈T:=by
 induction T with
 |nil=>simp[u0]at hx
 |cons p T ih=>
  obtain⟨i,y⟩:=p;simp only[u0]at hx;cases hbq:Nat.beq i d with
  |true=>rw[hbq]at hx;cases hx;have:=z7 hbq;subst this;exact C7
  |false=>rw[hbq]at hx;exact F6 _ (ih hx)
theorem c7g.rel{sy':Sy}(h:c7g sy sy')(hs:Sim A st sy)(hr:Rel (cx X w0 bor) st a w):∃st',Sim A st' sy'∧Rel (cx X w0 bor) st' a w∧∀b,b∈bs st'.H→b∈bs st.H:=by
 obtain⟨n,hshape,hT,hH⟩:=h.ex;have hs0:=hs.now hr.cls;have hr0:=hr.now;obtain⟨T',H',nk'⟩:=sy';simp only at hT hH;unfold a7E at hshape;split at hshape
 ·rename_i h1 h2 h3 h4;simp only at h1 h2 h3 h4;have hkn:=b7v h1
  let Hn:Hp:=fwH n st.H H'
  let Tn:=fwT st.T T'
  let st':St:=⟨Tn,Hn,nk',w,w.heap.size,[]⟩
  --each entry of the shape
  have entO:∀k e,m7 H' k=some e→(∀ds ty,e=.blk ds ty→∃b cs,l4 st.H k=some (.blk b cs ty)∧l4 Hn k=some (.blk b (fwB ds cs) ty)∧b2X (okS A (now st w)) w (B0 (now st w)) (a3o n ds) cs)∧
   (∀z m l ty,e=.row z m l ty→(Nat.blt k n=true∧∃v xs,l4 st.H k=some (.row v m xs z ty)∧l4 Hn k=some (.row v m xs z ty)∧l5 (okS A (now st w)) w l xs∧B4 l=true∧l.length=m*z)∨
    (Nat.blt k n=false∧m=0∧l=[]∧l4 Hn k=some (.row (.slice none 0 0) 0 [] z ty))):=by
   intro k e he;have hsub:=b0Y hH he;refine⟨fun ds ty heq=>?_,fun z m l ty heq=>?_⟩
   ·subst heq;simp only[b8j]at hsub;obtain⟨cs0,hsub,hle⟩:=hsub;obtain⟨e',h5,h6⟩:=hs0.H k _ hsub;cases e' with
    |row=>exact h6.elim
    |mp=>exact h6.elim
    |blk b cs ty'=>
     obtain⟨rfl,h6⟩:=h6;exact⟨b,cs,h5,b3m h5 he,b9C _ _ _ hle h6⟩
   ·subst heq;simp only[b8j]at hsub;cases hb:Nat.blt k n with
    |true=>
     rw[hb]at hsub;obtain⟨m0,l0,hsub,rfl,rfl⟩:=hsub;obtain⟨e',h5,h6⟩:=hs0.H k _ hsub;cases e' with
     |blk=>exact h6.elim
     |mp=>exact h6.elim
     |row v m' xs z' ty'=>
      obtain⟨rfl,rfl,rfl,h7,h8,h9⟩:=h6;exact .inl ⟨rfl,v,xs,h5,b3A hb h5 he,h7,h8,h9⟩
    |false=>
     rw[hb]at hsub;obtain⟨rfl,rfl⟩:=hsub;exact .inr ⟨rfl,rfl,rfl,b3F hb he⟩
  have entM:∀k es ty,m7 H' k=some (.mp es ty)→k<n∧∃b,l4 st.H k=some (.mp b es ty)∧l4 Hn k=some (.mp b es ty):=by
   intro k es ty he;obtain⟨es0,hsub,rfl⟩:=b0Y hH he;obtain⟨e',h5,h6⟩:=hs0.H k _ hsub;cases e' with
   |blk=>exact h6.elim
   |row=>exact h6.elim
   |mp b es' ty'=>
    obtain⟨rfl,rfl⟩:=h6;exact⟨b4F h4 he,b,h5,b4T h5 he⟩
  have hnkk:∀k,O2 k (a0A H')=true→k<nk':=fun k hk=>by
   obtain⟨e,he⟩:=a7j hk;exact b9B h2 k (b7W (c6u he))
  have hz:c4u (okS A (now st w)) w n (a0A H') (B0 (now st w)) (B0 st') st.H Hn:=by
   refine⟨fun q j hj hlt hq=>⟨hnkk j hj,fun hq2=>?_⟩,fun j hj hlt=>?_,fun j hj hlt=>?_⟩
   ·obtain⟨e,he⟩:=a7j hj;obtain⟨er,hrow,hir⟩:=hq.2 hq2;cases e with
    |blk ds ty=>
     obtain⟨b,cs,g1,_⟩:=(entO j _ he).1 ds ty rfl;simp only[now]at hrow;rw[g1]at hrow;cases hrow;cases hir
    |mp es ty=>
     obtain⟨_,b,_,g2⟩:=entM j es ty he;exact⟨_,g2,rfl⟩
    |row z m l ty=>
     rcases(entO j _ he).2 z m l ty rfl with⟨_,v,xs,_,g2,_⟩|⟨g1,_⟩
     ·exact⟨_,g2,rfl⟩
     ·rw[a0R.2 hlt]at g1;cases g1
   ·obtain⟨e,he⟩:=a7j hj;cases e with
    |blk ds ty=>
     obtain⟨b,cs,g1,g2,_⟩:=(entO j _ he).1 ds ty rfl;simp only[bOf,o5,g1,g2];exact⟨trivial,trivial⟩
    |mp es ty=>
     obtain⟨_,b,g1,g2⟩:=entM j es ty he;simp only[bOf,o5,g1,g2];exact⟨trivial,trivial⟩
    |row z m l ty=>
     rcases(entO j _ he).2 z m l ty rfl with⟨_,v,xs,g1,g2,_⟩|⟨g1,_⟩
     ·simp only[bOf,o5,g1,g2];exact⟨trivial,trivial⟩
     ·rw[a0R.2 hlt]at g1;cases g1
   ·obtain⟨e,he⟩:=a7j hj;cases e with
    |blk ds ty=>exact absurd (a3P h4 he).1 hlt
    |mp es ty=>exact absurd (entM j es ty he).1 hlt
    |row z m l ty=>
     rcases(entO j _ he).2 z m l ty rfl with⟨g1,_⟩|⟨_,_,_,g2⟩
     ·exact absurd (a0R.1 g1) hlt
     ·exact⟨⟨hnkk j hj,fun _=>⟨_,g2,rfl⟩⟩,by simp[o5,g2]⟩
  --the entries' source
  have hsrc:∀Hd:Hy,(∀k e,(k,e)∈Hd→(k,e)∈H')→a7w st.H Hn (a5p n Hd) (fwH n st.H Hd):=by
   intro Hd
   induction Hd with
   |nil=>intro _;trivial
   |cons x Hd ih=>
    intro hsubm;obtain⟨k,e⟩:=x;have hmem:=hsubm k e C7;have he:=b1G hkn hmem;have ih:=ih fun k e h=>hsubm k e (F6 _ h)
    cases e with
    |blk ds ty=>
     obtain⟨b,cs,g1,g2,g3⟩:=(entO k _ he).1 ds ty rfl;obtain⟨q1,q2⟩:=a3P h4 he;simp only[a5p,fwH,g1,a7w];refine⟨?_,ih⟩;simp only[c0h];exact⟨trivial,(b1N hz ds cs g3 q2).2,trivial⟩
    |mp es ty=>
     obtain⟨_,b,g1,g2⟩:=entM k es ty he;simp only[a5p,fwH,g1,a7w];exact⟨by simp only[c0h];exact⟨trivial,trivial,trivial⟩,ih⟩
    |row z m l ty=>
     rcases(entO k _ he).2 z m l ty rfl with⟨hb,v,xs,g1,g2,_⟩|⟨hb,rfl,rfl,g2⟩
     ·simp only[a5p,fwH,hb,g1,a7w];exact⟨by simp only[c0h];exact⟨trivial,trivial,trivial,trivial,trivial⟩,ih⟩
     ·simp only[a5p,fwH,hb,a7w];exact⟨⟨trivial,trivial,trivial⟩,ih⟩
  --the slots
  have hin:=b8s h3
  have hent:∀p,p∈T'→∃s0,A8 st.T p.1=some s0∧s0≠ .bad∧j5 (okS A (now st w)) w (B0 st') p.2 (fwS p.2 s0)∧den Hn (fwS p.2 s0)=den st.H s0:=by
   have hall:∀Td:List (Nat×D),b1r n sy.T Td→∀p,p∈Td→∃y,u0 sy.T p.1=some y∧leD y (a2w n p.2):=by
    intro Td
    induction Td with
    |nil=>intro _ p hp;cases hp
    |cons q Td ih=>
     intro hq p hp;simp only[b1r]at hq;rcases u9.1 hp with rfl|hp
     ·exact hq.1
     ·exact ih hq.2 p hp
   intro p hp;have hi:=hin p hp;have hbad:p.2≠ .bad:=fun e=>by rw[e]at hi;simp[inK]at hi
   have hbk:a2w n p.2≠ .bad:=by
    cases hx:p.2<;>simp only[a2w]<;>first|(intro e;cases e)|skip
    ·split<;>(intro e;cases e)
    ·exact absurd hx hbad
   obtain⟨y,hy1,hy2⟩:=hall T' hT p hp;rcases hs0.T p.1 y hy1 with e|⟨s,g1,g2⟩
   ·subst e;simp only[leD]at hy2;exact absurd hy2.symm hbk
   ·have g2:=c3m _ _ _ hy2 g2;obtain⟨g3,g4⟩:=c3P hz p.2 s g2 hi;exact⟨s,g1,g2.ne hbk,g3,g4⟩
  have hsubT:∀Td:List (Nat×D),(∀p,p∈Td→p∈T')→c7A st.H Hn st.T (fwT st.T Td)∧∀j,nk'≤j→w8 j (fwT st.T Td)=true:=by
   intro Td
   induction Td with
   |nil=>intro _;exact⟨trivial,fun _ _=>rfl⟩
   |cons q Td ih=>
    intro hm;obtain⟨s0,g1,g2,g3,g4⟩:=hent q (hm q C7);obtain⟨i1,i2⟩:=ih fun p hp=>hm p (F6 _ hp)
    obtain⟨d,x⟩:=q;simp only at g1 g2 g3 g4;simp only[fwT,g1];refine⟨⟨?_,i1⟩,fun j hj=>?_⟩
    ·rw[g1];cases s0<;>first|exact g4.symm|exact absurd rfl g2
    ·have hm0:ment j (fwS x s0)=false:=j5.ment (fun p hp=>by have:=hp.1;simp only[st']at this;omega) _ _ g3;simp only[w8,hm0];exact i2 j hj
  obtain⟨k1,k2⟩:=hsubT T' fun _ h=>h
  have hkeys:(Hn.map (·.1))=a0A H':=b4y H'
  have hsub:Sub (now st w) st':=by
   refine⟨a5p n H',k1,hsrc H' (fun _ _ h=>h),?_,by simp only[st'];rw[hkeys];exact hkn,fun k hk=>?_⟩
   ·have:∀Hd:Hy,(a5p n Hd).filterMap id=(a0A Hd).filter (fun k=>O2 k ((a5p n Hd).filterMap id))∨True:=fun _=>.inr trivial
    have hsubl:∀Hd:Hy,((a5p n Hd).filterMap id).Sublist (a0A Hd):=by
     intro Hd
     induction Hd with
     |nil=>exact List.Sublist.slnil
     |cons x Hd ih=>
      obtain⟨k,e⟩:=x;cases e with
      |blk ds ty=>simp only[a5p,a0A,List.filterMap_cons,id];exact List.Sublist.cons_cons _ ih
      |mp es ty=>simp only[a5p,a0A,List.filterMap_cons,id];exact List.Sublist.cons_cons _ ih
      |row z m l ty=>
       simp only[a5p,a0A];cases hb:Nat.blt k n with
       |true=>simp only[List.filterMap_cons,id];exact List.Sublist.cons_cons _ ih
       |false=>simp only[List.filterMap_cons,id];exact List.Sublist.cons _ ih
    exact(hsubl H').nodup hkn
   ·simp only[st']at hk;rw[hkeys]at hk;exact b9B h2 k hk
  obtain⟨hrel,hbs⟩:=hsub.rel hr0 ⟨rfl,rfl,rfl⟩;have hok:∀b,okS A (now st w) b→okS A st' b∧w.heap[b]?=w.heap[b]?:=fun b hb=>⟨⟨⟨.inl hb.2.1,hb.1.2⟩,hb.2.1,fun c hc=>hb.2.2 c (hbs c hc)⟩,rfl⟩
  refine⟨st',⟨fun d x hx=>?_,fun k e he=>?_,rfl,k2,fun j hj=>?_⟩,hrel,hbs⟩
  ·right;have hp:(d,x)∈T':=c5v hx;obtain⟨s0,g1,g2,g3,g4⟩:=hent _ hp;exact⟨fwS x s0,c1N hx g1,j5.mono hok (fun _ _ h=>h) _ _ g3⟩
  ·cases e with
   |blk ds ty=>
    obtain⟨b,cs,g1,g2,g3⟩:=(entO k _ he).1 ds ty rfl;obtain⟨q1,q2⟩:=a3P h4 he;exact⟨_,g2,by exact⟨rfl,j9.mono hok (fun _ _ h=>h) _ _ (b1N hz ds cs g3 q2).1⟩⟩
   |mp es ty=>
    obtain⟨_,b,_,g2⟩:=entM k es ty he;exact⟨_,g2,by exact⟨rfl,rfl⟩⟩
   |row z m l ty=>
    rcases(entO k _ he).2 z m l ty rfl with⟨hb,v,xs,g1,g2,g3,g4,g5⟩|⟨hb,rfl,rfl,g2⟩
    ·exact⟨_,g2,by exact⟨rfl,rfl,rfl,l5.mono hok _ _ g3,g4,g5⟩⟩
    ·exact⟨_,g2,by exact⟨rfl,rfl,rfl,trivial,rfl,by simp⟩⟩
  ·have hfr:∀Hd:Hy,(∀k e,(k,e)∈Hd→(k,e)∈H')→A7 j (fwH n st.H Hd)=true:=by
    intro Hd
    induction Hd with
    |nil=>intro _;rfl
    |cons x Hd ih=>
     intro hsubm;obtain⟨k,e⟩:=x;have he:=b1G hkn (hsubm k e C7);have ih:=ih fun k e h=>hsubm k e (F6 _ h)
     cases e with
     |blk ds ty=>
      obtain⟨b,cs,g1,g2,g3⟩:=(entO k _ he).1 ds ty rfl;obtain⟨q1,q2⟩:=a3P h4 he;simp only[fwH,g1];refine Q1 ?_ ih;simp only[a7T,a5J];exact(b1N hz ds cs g3 q2).1.ment fun p hp=>by have:=hp.1;simp only[st']at this hj;omega
     |mp es ty=>
      simp only[fwH];split<;>exact Q1 rfl ih
     |row z m l ty=>
      simp only[fwH];split<;>exact Q1 rfl ih
   exact hfr H' fun _ _ h=>h
 ·cases hshape
theorem d1o.rel{sy':Sy}(h:d1o sy sy')(hs:Sim A st sy)(hr:Rel (cx X w0 bor) st a w):∃st',Sim A st' sy'∧Rel (cx X w0 bor) st' a w∧∀b,b∈bs st'.H→b∈bs st.H:=by
 rcases h.ex with h|⟨p,q,m,⟨hp,hq⟩,h1,h2⟩
 ·exact h.rel hs hr
 ·obtain⟨st1,s1,r1,b1⟩:=h1.rel hs hr;have hm:st1.nk=m:=s1.nk.symm;obtain⟨s2,r2⟩:=d2y (a:=p) (b:=q) (by rw[hm];exact a0R.1 hp) (by rw[hm];exact a0R.1 hq) s1 r1;simp only[b7K,b7D]at s2;obtain⟨st3,s3,r3,b3⟩:=h2.rel s2 r2;exact⟨st3,s3,r3,fun b hb=>b1 b (by have:=b3 b hb;simp only[a7K,b8y]at this;exact this)⟩
theorem I1.rel{sy':Sy}(hA:AG A X.P w0 bor)(h:I1 sy sy')(hs:Sim A st sy)(hr:Rel (cx X w0 bor) st a w):∃st',Sim A st' sy'∧Rel (cx X w0 bor) st' a w∧∀b,b∈bs st'.H→b∈bs st.H:=by
 obtain⟨ks,sy1,hf,hk⟩:=h.ex;obtain⟨st1,s1,hr1,b1⟩:=b9b hA hf hs hr;obtain⟨st2,h1,h2,h3⟩:=hk.rel s1 hr1;exact⟨st2,h1,h2,fun b hb=>b1 b (h3 b hb)⟩
end
section
variable {A : Nat → Prop}{X : Cy}{w0 : World}{bor : List Nat}{st : St}{sy : Sy}{a : Act}{w : World}
theorem a4q(hs:Sim A st sy):∀ {rs:List ResultVar}{l:List D},a1G X sy rs=some l→∃l',b0e (cx X w0 bor) st rs=some l'∧j9 (okS A st) st.w (B0 st) l l'
 |[],l,h=>by simp only[a1G]at h;cases h;exact⟨[],rfl,trivial⟩
 |.tmp t::rs,l,h=>by
  simp only[a1G]at h;split at h
  ·cases h
  ·rename_i x l1 hb hx hl;cases h;obtain⟨l',h1,h2⟩:=a4q hs hl;obtain⟨hlt,hx⟩:=a4c hx;rcases hs.T t x hx with e|⟨s,h3,h4⟩
   ·exact absurd e hb
   ·have hsb:=h4.ne hb;refine⟨s::l',?_,h4,h2⟩;simp only[b0e,a9r hlt,h3,h1]
    try (cases s<;>first|rfl|exact absurd rfl hsb)
  ·cases h
 |.cell b t::rs,l,h=>by
  simp only[a1G]at h;split at h
  ·rename_i i k o l1 hi hx hl;obtain⟨l',h1,h2⟩:=a4q hs hl;split at h
   ·rename_i cs ty hf;obtain⟨e',hf',he⟩:=hs.H _ _ hf;cases e' with
    |row=>exact he.elim
    |mp=>exact he.elim
    |blk b' cs' ty'=>
     split at h
     ·rename_i c hc;split at h
      ·rename_i x hm;cases h;obtain⟨r,h3,h4⟩:=(he.2.dropD o).takeD hc;obtain⟨s,h5,h6⟩:=c5g h4 hm;obtain⟨hlt,hx⟩:=a4c hx;rcases hs.T b _ hx with e|⟨s0,h7,h8⟩
       ·cases e
       ·simp only[j5]at h8;obtain⟨rfl,_⟩:=h8;exact⟨s::l',by simp only[b0e,cx,hi,a9r hlt,h7];rw[show b0e ⟨X.P,X.tt,w0,bor,X.nt,X.pl,X.dfs,X.sv⟩ st rs=some l' from h1];simp only[hf',h3,h5],h6,h2⟩
      ·cases h
     ·cases h
   ·cases h
  ·cases h
theorem a2D{n:Nat}{l:List D}{d:Nat}{s:D}(h:u0 (a1Y n l) d=some s):n≤d∧l[d-n]?=some s:=by
 induction l generalizing n with
 |nil=>simp[a1Y,u0]at h
 |cons x l ih=>
  simp only[a1Y,u0]at h;cases hb:Nat.beq n d with
  |true=>rw[hb]at h;cases h;have:=z7 hb;subst this;simp
  |false=>
   rw[hb]at h;obtain⟨h1,h2⟩:=ih h;have hne:=a3y hb;have:d-n=(d-(n+1))+1:=by omega
   rw[this];exact⟨by omega,by simpa using h2⟩
theorem a5H{n d:Nat}{l:List SV}{s:SV}(hd:n≤d)(h:l[d-n]?=some s):A8 (a4O n l) d=some s:=by
 induction l generalizing n with
 |nil=>simp at h
 |cons x l ih=>
  simp only[a4O,A8];cases hb:Nat.beq n d with
  |true=>have:=z7 hb;subst this;simpa using h
  |false=>
   have hne:=a3y hb;have:d-n=(d-(n+1))+1:=by omega
   rw[this]at h;exact ih (by omega) (by simpa using h)
theorem a3Q{j n:Nat}{l:List Value}:w8 j (a4O n (vs l))=true:=by
 induction l generalizing n with
 |nil=>rfl
 |cons x l ih=>simp only[vs,a4O,w8,ment];exact ih
theorem a6a{l r:List (Nat×SV)}{d:Nat}:A8 (l++r) d=match A8 l d with|some s=>some s|none=>A8 r d:=by
 induction l with
 |nil=>rfl
 |cons x l ih=>
  obtain⟨e,s⟩:=x;simp only[a1l,A8];cases Nat.beq e d with
  |true=>rfl
  |false=>exact ih
theorem b9R{l r:List (Nat×D)}{d:Nat}:u0 (l++r) d=match u0 l d with|some s=>some s|none=>u0 r d:=by
 induction l with
 |nil=>rfl
 |cons x l ih=>
  obtain⟨e,s⟩:=x;simp only[a1l,u0];cases Nat.beq e d with
  |true=>rfl
  |false=>exact ih
theorem b3X{a b:Nat}(h:Nat.blt a b=true):a<b:=by simpa[a4p]using h
theorem b1j{a b:Nat}(h:Nat.blt a b=false):¬a<b:=fun hl=>by
 have:Nat.blt a b=true:=by rw[a4p];exact hl
 rw[h]at this;cases this
def R9{α:Type}:List (Nat×α)→Nat→Option α
 |[],_=>none
 |(d,s)::T,k=>match Nat.beq d k with|true=>some s|false=>R9 T k
theorem a3l(T:List (Nat×SV))(d:Nat):A8 T d=R9 T d:=by
 induction T with
 |nil=>rfl
 |cons p T ih=>obtain⟨e,s⟩:=p;simp only[A8,R9];cases Nat.beq e d;exact ih;rfl
theorem a9K(T:List (Nat×D))(d:Nat):u0 T d=R9 T d:=by
 induction T with
 |nil=>rfl
 |cons p T ih=>obtain⟨e,s⟩:=p;simp only[u0,R9];cases Nat.beq e d;exact ih;rfl
section
variable {α : Type}{nt : Nat}
theorem c0I(hn:nt≤1000000)(T:List (Nat×α)){e:Nat}(h:e<1000000):R9 (a0p nt T) e=none:=by
 induction T with
 |nil=>rfl
 |cons p T ih=>
  obtain⟨d,y⟩:=p;simp only[a0p];split
  ·rename_i hb;have:=b3X hb;have hne:Nat.beq (Nat.add 1000000 d) e=false:=S9 (by show 1000000+d≠e;omega);simp only[R9,hne,ih]
  ·split
   ·exact ih
   ·rename_i hc;have:=b1j hc;have hne:Nat.beq (Nat.add d nt) e=false:=S9 (by show d+nt≠e;omega);simp only[R9,hne,ih]
theorem b2M(hn:nt≤1000000)(T:List (Nat×α)){e:Nat}(h:e<nt):R9 (a0p nt T) (1000000+e)=R9 T e:=by
 induction T with
 |nil=>rfl
 |cons p T ih=>
  obtain⟨d,y⟩:=p;simp only[a0p];split
  ·simp only[R9];by_cases he:d=e
   ·subst he;have h1:Nat.beq (Nat.add 1000000 d) (1000000+d)=true:=Nat.beq_refl _;have h2:Nat.beq d d=true:=Nat.beq_refl _;rw[h1,h2]
   ·have h1:Nat.beq (Nat.add 1000000 d) (1000000+e)=false:=S9 (by show 1000000+d≠_;omega);rw[h1,S9 he];exact ih
  ·rename_i hb;have hb:=b1j hb;have hne:Nat.beq d e=false:=S9 (by omega);split
   ·simp only[R9,hne,ih]
   ·rename_i hc;have:=b1j hc;have h1:Nat.beq (Nat.add d nt) (1000000+e)=false:=S9 (by show d+nt≠_;omega);simp only[R9,hne,h1,ih]
theorem b5H(hn:nt≤1000000)(T:List (Nat×α)){e:Nat}(h:1000000≤e):R9 (a0p nt T) (e+nt)=R9 T e:=by
 induction T with
 |nil=>rfl
 |cons p T ih=>
  obtain⟨d,y⟩:=p;simp only[a0p];split
  ·rename_i hb;have:=b3X hb;have h1:Nat.beq (Nat.add 1000000 d) (e+nt)=false:=S9 (by show 1000000+d≠_;omega);have hne:Nat.beq d e=false:=S9 (by omega);simp only[R9,hne,h1,ih]
  ·split
   ·rename_i hc;have:=b3X hc;have hne:Nat.beq d e=false:=S9 (by omega);simp only[R9,hne,ih]
   ·simp only[R9];by_cases he:d=e
    ·subst he;have h1:Nat.beq (Nat.add d nt) (d+nt)=true:=Nat.beq_refl _;have h2:Nat.beq d d=true:=Nat.beq_refl _;rw[h1,h2]
    ·have h1:Nat.beq (Nat.add d nt) (e+nt)=false:=S9 (by show d+nt≠_;omega);rw[h1,S9 he];exact ih
theorem a8L(hn:nt≤1000000)(T:List (Nat×α)){e:Nat}(h:e<nt):R9 (N7 nt T) e=R9 T (1000000+e):=by
 induction T with
 |nil=>rfl
 |cons p T ih=>
  obtain⟨d,y⟩:=p;simp only[N7];split
  ·rename_i hb;have:=b3X hb;have h1:Nat.beq d (1000000+e)=false:=S9 (by omega);simp only[R9,h1,ih]
  ·rename_i hb;have hb:=b1j hb;split
   ·rename_i hc;have hc:d<1000000+nt:=b3X hc;simp only[R9];by_cases he:d=1000000+e
    ·have h1:Nat.beq (Nat.mod d 1000000) e=true:=by rw[Nat.beq_eq];show d % 1000000=e;omega
     have h2:Nat.beq d (1000000+e)=true:=by rw[Nat.beq_eq];exact he
     rw[h1,h2]
    ·have h1:Nat.beq (Nat.mod d 1000000) e=false:=S9 (by show d % 1000000≠e;omega);rw[h1,S9 he];exact ih
   ·rename_i hc;have hc:¬d<1000000+nt:=b1j hc;have h1:Nat.beq (Nat.sub d nt) e=false:=S9 (by show d-nt≠e;omega);have h2:Nat.beq d (1000000+e)=false:=S9 (by omega);simp only[R9,h1,h2,ih]
theorem b0I(hn:nt≤1000000)(T:List (Nat×α)){e:Nat}(h:1000000≤e):R9 (N7 nt T) e=R9 T (e+nt):=by
 induction T with
 |nil=>rfl
 |cons p T ih=>
  obtain⟨d,y⟩:=p;simp only[N7];split
  ·rename_i hb;have:=b3X hb;have h1:Nat.beq d (e+nt)=false:=S9 (by omega);simp only[R9,h1,ih]
  ·rename_i hb;have hb:=b1j hb;split
   ·rename_i hc;have hc:d<1000000+nt:=b3X hc;have h1:Nat.beq (Nat.mod d 1000000) e=false:=S9 (by show d % 1000000≠e;omega);have h2:Nat.beq d (e+nt)=false:=S9 (by omega);simp only[R9,h1,h2,ih]
   ·rename_i hc;have hc:¬d<1000000+nt:=b1j hc;simp only[R9];by_cases he:d=e+nt
    ·have h1:Nat.beq (Nat.sub d nt) e=true:=by rw[Nat.beq_eq];show d-nt=e;omega
     have h2:Nat.beq d (e+nt)=true:=by rw[Nat.beq_eq];exact he
     rw[h1,h2]
    ·have h1:Nat.beq (Nat.sub d nt) e=false:=S9 (by show d-nt≠e;omega);rw[h1,S9 he];exact ih
theorem b5B(hn:nt≤1000000)(T:List (Nat×α)){e:Nat}(h:¬e<nt)(h':e<1000000):R9 (N7 nt T) e=none:=by
 induction T with
 |nil=>rfl
 |cons p T ih=>
  obtain⟨d,y⟩:=p;simp only[N7];split
  ·exact ih
  ·rename_i hb;have hb:=b1j hb;split
   ·rename_i hc;have hc:d<1000000+nt:=b3X hc;have h1:Nat.beq (Nat.mod d 1000000) e=false:=S9 (by show d % 1000000≠e;omega);simp only[R9,h1,ih]
   ·rename_i hc;have hc:¬d<1000000+nt:=b1j hc;have h1:Nat.beq (Nat.sub d nt) e=false:=S9 (by show d-nt≠e;omega);simp only[R9,h1,ih]
end
theorem c0R{j nt:Nat}{T:List (Nat×SV)}(h:w8 j T=true):w8 j (a0p nt T)=true:=by
 induction T with
 |nil=>rfl
 |cons p T ih=>
  obtain⟨d,y⟩:=p;simp only[w8]at h;split at h
  ·cases h
  ·rename_i hm;simp only[a0p];split
   ·simp only[w8,hm];exact ih h
   ·split
    ·exact ih h
    ·simp only[w8,hm];exact ih h
theorem b7p{j nt:Nat}{T:List (Nat×SV)}(h:w8 j T=true):w8 j (N7 nt T)=true:=by
 induction T with
 |nil=>rfl
 |cons p T ih=>
  obtain⟨d,y⟩:=p;simp only[w8]at h;split at h
  ·cases h
  ·rename_i hm;simp only[N7];split
   ·exact ih h
   ·split
    ·simp only[w8,hm];exact ih h
    ·simp only[w8,hm];exact ih h
theorem b7U{j:Nat}:∀ {n:Nat}{l:List SV},I2 j l=false→w8 j (a4O n l)=true
 |_,[],_=>rfl
 |n,x::l,h=>by
  simp only[I2]at h;split at h
  ·cases h
  ·rename_i hm;simp only[a4O,w8,hm];exact b7U h
theorem c5A{j:Nat}{l r:List (Nat×SV)}(hl:w8 j l=true)(hr:w8 j r=true):w8 j (l++r)=true:=by
 induction l with
 |nil=>exact hr
 |cons p l ih=>
  obtain⟨d,y⟩:=p;simp only[w8]at hl;split at hl
  ·cases hl
  ·rename_i hm;simp only[a1l,w8,hm];exact ih hl
theorem d0D{X X':Cy}(h:X.tt=X'.tt)(st:Sy)(rs:List ResultVar):a1G X st rs=a1G X' st rs:=by
 induction rs with
 |nil=>rfl
 |cons r rs ih=>cases r<;>simp only[a1G,ih,h]
theorem j9.get{ok:Nat→Prop}{w:World}{R:Bool→Nat→Prop}{l:List D}{r:List SV}(h:j9 ok w R l r){i:Nat}{x:D}(hx:l[i]?=some x):∃s,r[i]?=some s∧j5 ok w R x s:=by
 induction l generalizing r i with
 |nil=>simp at hx
 |cons d l ih=>cases r with
  |nil=>simp[j9]at h
  |cons y r=>
   simp only[j9]at h;cases i with
   |zero=>simp at hx;subst hx;exact⟨y,rfl,h.1⟩
   |succ i=>simp at hx;simpa using ih h.2 hx
theorem b6e{nt:Nat}(hn:nt≤1000000){T:List (Nat×SV)}{d:Nat}{s:SV}(h:A8 (a0p nt T) d=some s):(∃e,d=1000000+e∧e<nt∧A8 T e=some s)∨(∃e,d=e+nt∧1000000≤e∧A8 T e=some s):=by
 rw[a3l]at h;by_cases h1:d<1000000
 ·rw[c0I hn _ h1]at h;cases h
 ·by_cases h2:d<1000000+nt
  ·obtain⟨e,rfl⟩:∃e,d=1000000+e:=⟨d-1000000,by omega⟩;rw[b2M hn _ (by omega)]at h;exact .inl ⟨e,rfl,by omega,by rw[a3l];exact h⟩
  ·obtain⟨e,rfl⟩:∃e,d=e+nt:=⟨d-nt,by omega⟩;rw[b5H hn _ (by omega)]at h;exact .inr ⟨e,rfl,by omega,by rw[a3l];exact h⟩
theorem b4p{nt:Nat}(hn:nt≤1000000){T:List (Nat×D)}{d:Nat}{s:D}(h:u0 (a0p nt T) d=some s):(∃e,d=1000000+e∧e<nt∧u0 T e=some s)∨(∃e,d=e+nt∧1000000≤e∧u0 T e=some s):=by
 rw[a9K]at h;by_cases h1:d<1000000
 ·rw[c0I hn _ h1]at h;cases h
 ·by_cases h2:d<1000000+nt
  ·obtain⟨e,rfl⟩:∃e,d=1000000+e:=⟨d-1000000,by omega⟩;rw[b2M hn _ (by omega)]at h;exact .inl ⟨e,rfl,by omega,by rw[a9K];exact h⟩
  ·obtain⟨e,rfl⟩:∃e,d=e+nt:=⟨d-nt,by omega⟩;rw[b5H hn _ (by omega)]at h;exact .inr ⟨e,rfl,by omega,by rw[a9K];exact h⟩
theorem b8e{n d:Nat}{l:List SV}(h:d<n∨n+l.length≤d):A8 (a4O n l) d=none:=by
 induction l generalizing n with
 |nil=>rfl
 |cons x l ih=>
  simp only[Y0]at h;simp only[a4O,A8,S9 (show n≠d by omega)];exact ih (by omega)
theorem c3f(hA:AG A X.P w0 bor)(hP:POK X.P X.tt){o:Oper}{Q:Exit→Act→World→Prop}{KY:Sy→Prop}{f:FuncId}{args:List D}{args':List SV}(hr:Rel (cx X w0 bor) st a w)(hs:Sim A st sy)(ha:j9 (okS A st) st.w (B0 st) args args')
 (h:a3r X f args o.dst sy KY) (hout:a2A (cx X w0 bor) st a o (.call f args')):o.wp X.P a w (LvY A (cx X w0 bor) st.H w KY) Q:=by
 obtain⟨nt,pl,ln,un,inl,fn,c,st0,st1,⟨hf,hb,hnt,hg,hl⟩,hsub,hbody,hk⟩:=h.ex;have hg:nt≤1000000:=J6 hg;have hl:args.length≤nt:=J6 hl;have hlen:=ha.length;have hXn:X.nt≤1000000:=hr.size.2;have hXs:a.tmps.size=X.nt:=hr.size.1;generalize hX':(⟨X.P,X.tt,nt,pl,ln,un,[],inl,[]⟩:Cy)=X' at hbody;have hP':X'.P=X.P:=by rw[←hX']
 have htt:X'.tt=X.tt:=by rw[←hX']
 have hn':X'.nt=nt:=by rw[←hX']
 have hd':X'.dfs=[]:=by rw[←hX']
 generalize hsv:a.tmps.toList++X.sv=sv
 have hrc:Rel (cx { X' with sv:=sv} w0 bor) ⟨a4O 0 args'++a0p X.nt st.T,st.H,st.nk,st.w,st.lo,st.iv⟩ { tmps:=(o6 st.H args').toArray++Array.replicate (fn.ntmps-(o6 st.H args').toArray.size) undef,defers:=[]} w:=by
  refine⟨⟨by simp[cx,hn',u6,←hlen];omega,by simp only[cx,hn'];exact hg⟩,fun d s hs=>?_,by simp[cx,hd'],⟨hr.cls.fx,hr.cls.fx0,hr.cls.own,hr.cls.nd,hr.cls.lb,hr.cls.keys,hr.cls.lt⟩,hr.lo,hr.iv⟩;simp only[a6a]at hs;split at hs
  ·rename_i s' hz;cases hs;obtain⟨_,h2⟩:=a2N (n:=0) hz;simp only[a6l]at h2;have hlt:d<args'.length:=(P3.1 h2).1;right;have h3:(o6 st.H args')[d]?=some (den st.H s):=by rw[b4W,h2];rfl
   rw[N1,k9 (show d<1000000 by omega),a6S (by simp[u6];exact hlt)];simpa using h3
  ·rcases b6e hXn hs with⟨e,rfl,he,hl'⟩|⟨e,rfl,he,hl'⟩
   ·rcases hr.T e s hl' with h|h
    ·exact .inl h
    ·right;rw[N1,k9 (show e<1000000 by omega)]at h;rw[N1,j6 (by simp)];simp only[cx,←hsv];rw[show 1000000+e-L3=e by simp,b3O (by simp[hXs];exact he)];simpa using h
   ·rcases hr.T e s hl' with h|h
    ·exact .inl h
    ·right;rw[N1,j6 (show¬e<1000000 by omega)]at h;rw[N1,j6 (show¬e+X.nt<1000000 by omega)];simp only[cx,←hsv];rw[b7X (by simp[hXs,L3];omega)];rw[show e+X.nt-L3-a.tmps.toList.length=e-L3 by simp[hXs,L3];omega];exact h
 have hsc:Sim A ⟨a4O 0 args'++a0p X.nt st.T,st.H,st.nk,st.w,st.lo,st.iv⟩ ⟨a1Y 0 args++a0p X.nt sy.T,sy.H,sy.nk⟩:=by
  refine⟨fun d x hx=>?_,hs.H,hs.nk,fun j hj=>?_,hs.fH⟩
  ·simp only[b9R]at hx;split at hx
   ·rename_i x' hz;cases hx;obtain⟨_,h2⟩:=a2D hz;simp only[a6l]at h2;obtain⟨s,h3,h4⟩:=ha.get h2;exact .inr ⟨s,by simp only[a6a,a5H (L0 _) (show args'[d-0]?=some s from h3)],h4⟩
   ·rcases b4p hXn hx with⟨e,rfl,he,hl'⟩|⟨e,rfl,he,hl'⟩
    ·rcases hs.T e x hl' with h|⟨s,h1,h2⟩
     ·exact .inl h
     ·refine .inr ⟨s,?_,h2⟩;simp only[a6a,b8e (n:=0) (l:=args') (d:=1000000+e) (.inr (by omega))];rw[a3l,b2M hXn _ he,←a3l];exact h1
    ·rcases hs.T e x hl' with h|⟨s,h1,h2⟩
     ·exact .inl h
     ·refine .inr ⟨s,?_,h2⟩;simp only[a6a,b8e (n:=0) (l:=args') (d:=e+X.nt) (.inr (by omega))];rw[a3l,b5H hXn _ he,←a3l];exact h1
  ·exact c5A (b7U (ha.ment fun q=>b1h hj q)) (c0R (hs.fT j hj))
 have hA2:AG A X'.P w0 bor:=by rw[hP'];exact hA
 obtain⟨st0',hs0,hr0,hb0⟩:=hsub.rel (X:= { X' with sv:=sv}) hA2 hsc hrc
 have hcall:Calls X.P f (o6 st.H args').toArray w fun e w'=>∃v,e=.returned v∧LvY A (cx X w0 bor) st.H w KY (a.put o.dst v) w':=by
  refine calls_of_wp hf hb (hP'▸hbody A w0 bor sv st0' _ w _ hA2 hs0 hr0 fun e st' sy' a' w' hp hk' hs' hlv=>?_);obtain⟨T,H,nk⟩:=sy'
  have fin:(match a1G X' ⟨T,H,nk⟩ fn.results.toList with
   |some l=>O5 X ⟨N7 X.nt T,H,nk⟩ o.dst (c6p l) fun sy=>I1 sy st1
   |none=>False)→a'.defers=[]∧∃v,(results fn a'.tmps).run X.P w'=.ok v w'∧∃v1,Ending.returned v=.returned v1∧LvY A (cx X w0 bor) st.H w KY (a.put o.dst v1) w':=by
   intro hk';cases hres:a1G X' ⟨T,H,nk⟩ fn.results.toList with
   |none=>rw[hres]at hk';exact hk'.elim
   |some l=>
    rw[hres]at hk';simp only at hk';rw[d0D (X:=X') (X':= { X' with sv:=sv}) rfl]at hres
    obtain⟨l',h1,h2⟩:=a4q (w0:=w0) (bor:=bor) hs' hres;have hrun:=a2s (X:=cx { X' with sv:=sv} w0 bor) (by simp only[cx];rw[hP',htt];exact hP.tt) hlv.rel h1
    have hrun:(results fn a'.tmps).run X.P w'=.ok (a9Z st'.H l') w':=by rw[←hP'];exact hrun
    have hrd:∃s,j5 (okS A st') st'.w (B0 st') (c6p l) s∧den st'.H s=a9Z st'.H l':=by
     match l,l',h2 with
     |[x],[s],h2=>exact⟨s,h2.1,rfl⟩
     |[],[],h2=>exact⟨.tup [],by simp only[c6p,j5];exact .inl ⟨[],rfl,trivial⟩,by simp[den,a9Z]⟩
     |x::y::l,x'::y'::l',h2=>exact⟨.tup (x'::y'::l'),by simp only[c6p,j5];exact .inl ⟨_,rfl,h2⟩,by simp[den,a9Z]⟩
     |[],_::_,h2=>simp[j9]at h2
     |[_],[],h2=>simp[j9]at h2
     |[_],_::_::_,h2=>simp[j9]at h2
     |_::_::_,[],h2=>simp[j9]at h2
     |_::_::_,[_],h2=>simp[j9]at h2
    obtain⟨s,hrd,hden⟩:=hrd;refine⟨hlv.rel.dfs.trans hd',_,hrun,_,rfl,?_⟩;have hrl:=hlv.rel
    have hrr:Rel (cx X w0 bor) ⟨N7 X.nt st'.T,st'.H,st'.nk,st'.w,st'.lo,st'.iv⟩ a w':=by
     refine⟨hr.size,fun d s hl=>?_,hr.dfs,⟨hrl.cls.fx,hrl.cls.fx0,hrl.cls.own,hrl.cls.nd,hrl.cls.lb,hrl.cls.keys,hrl.cls.lt⟩,hrl.lo,hrl.iv⟩;rw[a3l]at hl;by_cases c1:d<X.nt
     ·rw[a8L hXn _ c1,←a3l]at hl;rcases hrl.T _ _ hl with h|h
      ·exact .inl h
      ·right;rw[N1,j6 (by simp)]at h;simp only[cx,←hsv]at h;rw[show 1000000+d-L3=d by simp,b3O (by simp[hXs];exact c1)]at h;rw[N1,k9 (show d<1000000 by omega)];simpa using h
     ·by_cases c2:d<1000000
      ·rw[b5B hXn _ c1 c2]at hl;cases hl
      ·rw[b0I hXn _ (by omega),←a3l]at hl;rcases hrl.T _ _ hl with h|h
       ·exact .inl h
       ·right;rw[N1,j6 (show¬d+X.nt<1000000 by omega)]at h;simp only[cx,←hsv]at h;rw[b7X (by simp[hXs,L3];omega)]at h;rw[show d+X.nt-L3-a.tmps.toList.length=d-L3 by simp[hXs,L3];omega]at h;rw[N1,j6 c2];exact h
    have hsr:Sim A ⟨N7 X.nt st'.T,st'.H,st'.nk,st'.w,st'.lo,st'.iv⟩ ⟨N7 X.nt T,H,nk⟩:=by
     refine⟨fun d x hx=>?_,hs'.H,hs'.nk,fun j hj=>b7p (hs'.fT j hj),hs'.fH⟩;simp only at hx;rw[a9K]at hx;by_cases c1:d<X.nt
     ·rw[a8L hXn _ c1,←a9K]at hx;rcases hs'.T _ _ hx with h|⟨s,h1,h2⟩
      ·exact .inl h
      ·exact .inr ⟨s,by simp only;rw[a3l,a8L hXn _ c1,←a3l];exact h1,h2⟩
     ·by_cases c2:d<1000000
      ·rw[b5B hXn _ c1 c2]at hx;cases hx
      ·rw[b0I hXn _ (by omega),←a9K]at hx;rcases hs'.T _ _ hx with h|⟨s,h1,h2⟩
       ·exact .inl h
       ·exact .inr ⟨s,by simp only;rw[a3l,b0I hXn _ (by omega),←a3l];exact h1,h2⟩
    obtain⟨st2,⟨sy2,k1,k2⟩,k3,k4⟩:=a1g hrr (D3 (w0:=w0) (bor:=bor) hk' hsr hrd) (v:=a9Z st'.H l') (.inr hden.symm);obtain⟨st3,hs3,hr3,hb3⟩:=k1.rel hA k2 k3;refine⟨st3,st1,hk,hs3,hr3,hlv.fx.wide fun b hb=>hb0 b hb,fun b hb=>?_⟩;have:=hb3 b hb;rw[k4]at this;rcases hlv.bs b this with h|h
    ·exact .inl (hb0 b h)
    ·exact .inr h
  cases e with
  |normal=>rw[hP'];exact fin hk'
  |ret=>rw[hP'];exact fin hk'
  |exit j=>exact hk'.elim
  |goto l=>exact hp.elim
  |panic c=>exact hp.elim
  |outgrown=>exact hp.elim
 have hbody:=a1p hcall fun e w' ⟨v,he,_⟩=>⟨v,he⟩
 unfold Oper.wp;rw[show(execOp a.eval o).run X.P w=_ from hout w hbody];simp only[Oper.upon];refine hcall.mono fun e w' ⟨v,he,hh⟩=>?_
 subst he;exact hh
theorem c7U(hA:AG A X.P w0 bor)(hP:POK X.P X.tt){o:Oper}{Q:Exit→Act→World→Prop}{KY:Sy→Prop}(hy:y1 X sy o.op (a9k X true sy o.dst KY))(hs:Sim A st sy)(hr:Rel (cx X w0 bor) st a w):o.wp X.P a w (LvY A (cx X w0 bor) st.H w KY) Q:=by
 have hev:=c3A (X:=X) (w0:=w0) (bor:=bor) (st:=st) (K:=fun out=>∃oy,b0X st.H (okS A st) st.w (B0 st) oy out∧a9k X true sy o.dst KY oy) (fun oy out h1 h2=>⟨oy,h1,h2⟩) (zOK hP) hs hy;obtain⟨out,⟨oy,hro,hfin⟩,hout⟩:=b9o (X:=cx X w0 bor) hP.tt hP.ng hr.ev (a5e hr.cls) hev;by_cases hcall:∃f args,out=.call f args
 ·obtain⟨f,args',rfl⟩:=hcall;cases oy<;>try exact hro.elim
  obtain⟨rfl,hargs⟩:=hro;simp only[a9k]at hfin;split at hfin
  ·exact c3f hA hP hr hs hargs hfin hout
  ·exact c6C hA hr hs hargs hfin hout
 ·have hf:=a7c (w0:=w0) (bor:=bor) hA hfin hro hs (.inr fun f args e=>hcall ⟨f,args,e⟩);refine a4B (fun a' w' hl=>?_) (c7D (X:=cx X w0 bor) (Q:=Q) hP.tt hf hout hr);obtain⟨st2,⟨sy2,hK2,hs2⟩,hr2,hf0,hb0⟩:=hl;exact⟨st2,sy2,hK2,hs2,hr2,hf0.wide (fun b h=>c9b b h),hb0.bs⟩
theorem d1d(hA:AG A X.P w0 bor)(hP:POK X.P X.tt){o:Oper}{Q:Exit→Act→World→Prop}{KY:Sy→Prop}(hy:b3y X sy o KY)(hs:Sim A st sy)(hr:Rel (cx X w0 bor) st a w):o.wp X.P a w (LvY A (cx X w0 bor) st.H w KY) Q:=
 c7C hA hP hy (fun _ _ h hs hr=>c7U hA hP h hs hr) hs hr
theorem b2j(hA:AG A X.P w0 bor)(hP:POK X.P X.tt){ops:Array Oper}{Q:Exit→Act→World→Prop}:∀(rest:List Oper) (st:St) (sy:Sy) (a:Act) (w:World) (K:Sy→Prop),c0a X ops.toList rest sy K→Sim A st sy→Rel (cx X w0 bor) st a w→
 (∀st' sy' a' w',K sy'→Sim A st' sy'→Lv (cx X w0 bor) st.H w st' a' w'→Q .normal a' w')→wpList X.P ops Q rest a w
 |[],st,sy,a,w,K,h,hs,hr,hQ=>hQ st sy a w h hs (Lv.refl hr)
 |o::rest,st,sy,a,w,K,h,hs,hr,hQ=>by
  simp only[c0a]at h;have hg:=b2Y (yes:=fun st'=>∃sy',Sim A st' sy'∧b3y X sy' o fun st=>c0a X ops.toList rest st K) (no:=fun st'=>∃sy',Sim A st' sy'∧O5 X sy' o.dst .und fun st=>c0a X ops.toList rest st K) h hs (fun st' sy' h1 h2=>⟨sy',h1,h2⟩) (fun st' sy' h1 h2=>⟨sy',h1,h2⟩);obtain⟨st1,hsm,_,hr1,hg⟩:=b6J (X:=cx X w0 bor) hg hr;rw[←hsm.H]at hQ;rcases hg with⟨hw,sy1,hs1,hy⟩|⟨hw,sy1,hs1,hn⟩
  ·simp only[wpList,hw,D2];left;exact a4B (fun a' w' ⟨st2,sy2,hK2,hs2,hl2⟩=>b2j hA hP rest st2 sy2 a' w' K hK2 hs2 hl2.rel fun st' sy' a'' w'' hK' hs' hlv=>hQ st' sy' a'' w'' hK' hs' (Lv.trans hl2 hlv)) (d1d hA hP hy hs1 hr1)
  ·simp only[wpList,hw];obtain⟨st2,⟨sy2,hK2,hs2⟩,hr2,hH2⟩:=a1g hr1 (D3 (w0:=w0) (bor:=bor) (s:=.v undef) hn hs1 (by simp only[j5])) (v:=undef) (.inr rfl);exact b2j hA hP rest st2 sy2 (a.put o.dst undef) w K hK2 hs2 hr2 fun st' sy' a'' w'' hK' hs' hlv=>hQ st' sy' a'' w'' hK' hs' (Lv.trans ⟨hr2,Fx.refl _ _,fun b hb=>by rw[hH2]at hb;exact .inl hb⟩ hlv)
theorem Sim.chA{A A':Nat→Prop}{st:St}{sy:Sy}(h:∀b,okS A st b→okS A' st b)(hs:Sim A st sy):Sim A' st sy:=
 ⟨fun d x hx=>(hs.T d x hx).imp id fun⟨s,h1,h2⟩=>⟨s,h1,j5.mono (fun b hb=>⟨h b hb,rfl⟩) (fun _ _ h=>h) _ _ h2⟩,
  fun k e he=>by obtain⟨e',h1,h2⟩:=hs.H k e he;exact⟨e',h1,a3H.mono (fun b hb=>⟨h b hb,rfl⟩) (fun _ _ h=>h) h2⟩,hs.nk,hs.fT,hs.fH⟩
theorem c8p{iv:List (Nat×Nat)}{b:Nat}(h:a7b iv b):¬∃p,p∈iv∧p.1≤b∧b<p.2:=by
 induction iv with
 |nil=>rintro⟨p,hp,_⟩;cases hp
 |cons q iv ih=>
  obtain⟨n,m⟩:=q;simp only[a7b]at h;rintro⟨p,hp,h1,h2⟩;rcases u9.1 hp with rfl|hp
  ·rcases h.1 with h|h<;>simp only at h1 h2<;>omega
  ·exact ih h.2 ⟨p,hp,h1,h2⟩
def b0l(E:List Nat):Nat→List (Nat×Nat)
 |0=>[]
 |n+1=>match O2 n E with|true=>b0l E n|false=>(n,n+1)::b0l E n
theorem b6r{E:List Nat}{b:Nat}(hb:b∈E):∀n,a7b (b0l E n) b
 |0=>trivial
 |n+1=>by
  simp only[b0l];split
  ·exact b6r hb n
  ·rename_i h;refine⟨?_,b6r hb n⟩;have:b≠n:=fun e=>by rw[e]at hb;rw[E1.2 hb]at h;cases h
   omega
theorem b6v{E:List Nat}:∀n p,p∈b0l E n→p.1≤p.2∧p.2≤n
 |0,p,h=>by cases h
 |n+1,p,h=>by
  simp only[b0l]at h;split at h
  ·have:=b6v n p h;omega
  ·rcases u9.1 h with rfl|h
   ·simp
   ·have:=b6v n p h;omega
theorem b8a{E:List Nat}{b:Nat}(hb:b∉E):∀n,b<n→∃p,p∈b0l E n∧p.1≤b∧b<p.2
 |0,h=>by omega
 |n+1,h=>by
  simp only[b0l];by_cases e:b=n
  ·subst e;split
   ·rename_i hm;exact absurd (E1.1 hm) hb
   ·exact⟨(b,b+1),C7,y6 _,D6 _⟩
  ·obtain⟨p,h1,h2⟩:=b8a hb n (by omega);split
   ·exact⟨p,h1,h2⟩
   ·exact⟨p,F6 _ h1,h2⟩
theorem c2j{ops:List Oper}{l:List Nat}{T:List (Nat×D)}{d:Nat}{x:D}(h:u0 (a2Z .bad ops l T) d=some x)(hx:x≠ .bad):u0 T d=some x∧∀(T':List (Nat×SV)),A8 (a2Z .bad ops l T') d=A8 T' d:=by
 induction l with
 |nil=>exact⟨h,fun _=>rfl⟩
 |cons i l ih=>
  simp only[a2Z]at h⊢;split at h
  ·split at h
   ·rename_i o ho _ _ d' ha hd;simp only[u0]at h;cases hb:Nat.beq d' d with
    |true=>rw[hb]at h;cases h;exact absurd rfl hx
    |false=>
     rw[hb]at h;obtain⟨h1,h2⟩:=ih h;exact⟨h1,fun T'=>by simp only[A8,hb];exact h2 T'⟩
   ·exact ih h
  ·exact ih h
theorem c0U{j:Nat}{ops:List Oper}{l:List Nat}{T:List (Nat×SV)}(h:w8 j T=true):w8 j (a2Z .bad ops l T)=true:=by
 induction l with
 |nil=>exact h
 |cons i l ih=>
  simp only[a2Z];split
  ·split
   ·simp only[w8,ment];exact ih
   ·exact ih
  ·exact ih
theorem d1k(hA:AG A X.P w0 bor)(hP:POK X.P X.tt){o:Oper}{Q:Exit→Act→World→Prop}{j:Nat}{S:List Nat}{KY:Sy→Prop}(hy:y1 X sy o.op (c1F X (j::S) sy o.dst KY))(hs:Sim A st sy)(hr:Rel (cx X w0 bor) st a w):o.wp X.P a w (LvK A (cx X w0 bor) st.H w KY) Q:=by
 have hev:=c3A (X:=X) (w0:=w0) (bor:=bor) (st:=st) (K:=fun out=>∃oy,b0X st.H (okS A st) st.w (B0 st) oy out∧c1F X (j::S) sy o.dst KY oy) (fun oy out h1 h2=>⟨oy,h1,h2⟩) (zOK hP) hs hy;obtain⟨out,⟨oy,hro,hfin⟩,hout⟩:=b9o (X:=cx X w0 bor) hP.tt hP.ng hr.ev (a5e hr.cls) hev;cases oy<;>try exact hfin.elim
 cases out<;>try exact hro.elim
 obtain⟨rfl,hargs⟩:=hro;simp only[c1F]at hfin;split at hfin
 ·exact b5A hA hr hs hargs (by assumption) hfin hout
 ·exact hfin.elim
theorem d1n(hA:AG A X.P w0 bor)(hP:POK X.P X.tt){o:Oper}{ops:List Oper}{l S:List Nat}{KY:Sy→Prop}{K:St→Prop}
 (hy:y1 X sy o.op (c1F X S sy o.dst fun st=>match st with|⟨T,H,nk⟩=>KY ⟨a2Z .bad ops l T,H,nk⟩)) (hs:Sim A st sy)
 (hK:∀st' sy',KY sy'→Sim A st' sy'→K st'):d0L (cx X w0 bor) o (kpS S) st fun st=>match st with|⟨T,H,nk,w,lo,iv⟩=>K ⟨a2Z .bad ops l T,H,nk,w,lo,iv⟩:=by
 intro E a w hr hE;have hc:=hr.cls
 have hs':Sim (fun b=>A b∧b∉E) (now st w) sy:=by
  have:=hs.chA (A':=fun b=>A b∧b∉E) fun b hb=>⟨⟨hb.1.1,hb.1.2,fun he=>by
   obtain⟨_,h1,h2,_⟩:=hE b he;rcases hb.1.1 with h|h
   ·omega
   ·exact c8p h2 h⟩,hb.2⟩
  exact this.now hc
 have hr':Rel (cx X w (bs st.H)) (now st w) a w:=
  ⟨hr.size,hr.T,hr.dfs,⟨Fx.refl _ _,Fx.refl _ _,hc.own,hc.nd,fun b hb=>.inl hb,hc.keys,hc.lt⟩,y6 _,by simp[now]⟩
 have hA':AG (fun b=>A b∧b∉E) X.P w (bs st.H):=⟨fun b hb=>by
  refine⟨?_,fun he=>?_⟩
  ·rcases hb with hb|hb
   ·exact hA.a b (.inl (z6 hc.fx0.size hb))
   ·exact hA.a b (hc.lb b hb).symm
  ·obtain⟨h0,_,_,h3⟩:=hE b he;rcases hb with hb|hb
   ·omega
   ·exact h0 hb,hA.giw hc,fun b hb=>hA.lb hc hb⟩
 obtain⟨N,hN⟩:∃N:Act→World→Prop,N=fun a' w'=>∃st2 sy2,(match sy2 with|⟨T,H,nk⟩=>KY ⟨a2Z .bad ops l T,H,nk⟩)∧Sim (fun b=>A b∧b∉E) st2 sy2∧Lv (cx X w (bs st.H)) (now st w).H w st2 a' w'∧(kpS S=true→(∀i,i<w.heap.size→w'.heap[i]?=w.heap[i]?)∧KB st.H w st2.H):=⟨_,rfl⟩
 have hwp:o.wp X.P a w N (fun _ _ _=>False):=by
  rw[hN];cases S with
  |nil=>exact a4B (fun a' w' ⟨st2,sy2,g1,g2,g3⟩=>⟨st2,sy2,g1,g2,g3,fun h=>by cases h⟩) (c7U (Q:=fun _ _ _=>False) hA' hP hy hs' hr')
  |cons j S=>exact a4B (fun a' w' ⟨st2,sy2,g1,g2,g3,g4⟩=>⟨st2,sy2,g1,g2,g3,fun _=>g4⟩) (d1k (Q:=fun _ _ _=>False) hA' hP hy hs' hr')
 rcases b2c (X:=cx X w (bs st.H)) (Q:=fun _ _ _=>False) (a:=a) (A:=a) (next:=N) rfl hwp
  (fun _ _ h=>by rw[hN]at h;obtain⟨_,_,_,_,hl,_⟩:=h;exact hl.rel.dfs.trans hr.dfs.symm)with h|⟨_,_,h⟩
 case inr=>exact h.elim
 refine a4B (fun a' w' hh=>?_) h;rw[hN]at hh;obtain⟨v,hv,st2,sy2,hk,hs2,hl,hkp⟩:=hh;have hrl:=hl.rel;have hs3:=hs2.now hrl.cls;obtain⟨T2,H2,nk2,ws2,lo2,iv2⟩:=st2;obtain⟨T,H,nk⟩:=sy2;have hbs2:∀b,b∈bs H2→b∈bs st.H∨w.heap.size≤b:=hl.bs
 have hok:∀b,okS (fun b=>A b∧b∉E) (now ⟨T2,H2,nk2,ws2,lo2,iv2⟩ w') b→okS A ⟨T2,H2,nk2,w',0,b0l E w'.heap.size⟩ b∧w'.heap[b]?=w'.heap[b]?:=fun b hb=>
  ⟨⟨⟨.inr (b8a hb.1.2.2 _ hb.2.1),hb.1.2.1⟩,hb.2⟩,rfl⟩
 refine⟨v,hv,⟨T2,H2,nk2,w',0,b0l E w'.heap.size⟩,?_,⟨⟨by subst hv;exact hrl.size,fun d s hd=>by subst hv;exact hrl.T d s hd,by subst hv;exact hrl.dfs,
  ⟨Fx.refl _ _,Fx.trans hc.fx0 hl.fx (fun _ h=>h) fun b hb=>hc.lb b hb,hrl.cls.own,hrl.cls.nd,fun b hb=>?_,hrl.cls.keys,hrl.cls.lt⟩,L0 _,fun p hp=>b6v _ p hp⟩,hl.fx,hl.bs⟩,fun b hb=>⟨L0 _,b6r hb _⟩,hkp⟩
 ·simp only at hk⊢;refine hK _ _ hk ⟨fun d x hx=>?_,fun k e he=>?_,hs3.nk,fun j hj=>c0U (hs3.fT j hj),hs3.fH⟩
  ·by_cases hbad:x=.bad
   ·exact .inl hbad
   ·obtain⟨g1,g2⟩:=c2j hx hbad;rcases hs3.T d x g1 with h|⟨s,h1,h2⟩
    ·exact .inl h
    ·exact .inr ⟨s,by simp only[g2];exact h1,j5.mono hok (fun _ _ h=>h) _ _ h2⟩
  ·obtain⟨e',h1,h2⟩:=hs3.H k e he;exact⟨e',h1,a3H.mono hok (fun _ _ h=>h) h2⟩
 ·rcases hbs2 b hb with h|h
  ·exact hc.lb b h
  ·exact .inr (z6 hc.fx0.size h)
theorem a2G(hA:AG A X.P w0 bor)(hP:POK X.P X.tt){ops:List Oper}:∀(p:PT) {st:St}{sy:Sy}{pr:List (Nat×Option Nat)}{K:Sy→Prop},a8r X ops p sy pr K→Sim A st sy→a4a (cx X w0 bor) ops p st pr fun st'=>∃sy',K sy'∧Sim A st' sy'
 |.nil,st,sy,pr,K,h,hs=>⟨sy,h,hs⟩
 |.fork p q,st,sy,pr,K,h,hs=>⟨a2G hA hP p h.1 hs,a2G hA hP q h.2 hs⟩
 |.op i S fl rest,st,sy,pr,K,h,hs=>by
  simp only[a8r]at h;simp only[a4a];split at h
  ·rename_i o ho;rw[ho];refine b2Y h hs (fun st' sy' h1 h2=>?_) (fun st' sy' h1 h2=>?_)
   ·have plain:y1 X sy' o.op (c0D X i S fl pr o sy' fun st pr=>a8r X ops rest st pr K)→ev1 (cx X w0 bor) st' o.op (c0X (cx X w0 bor) i S fl pr o st' fun st pr=>a4a (cx X w0 bor) ops rest st pr fun st'=>∃sy',K sy'∧Sim A st' sy'):=fun h2=>
     c3A (X:=X) (w0:=w0) (bor:=bor) (KY:=c0D X i S fl pr o sy' fun st pr=>a8r X ops rest st pr K) (fun oy out hro hk=>c6e hA hk hro h1 fun st2 sy2 pr hs2 hk2=>a2G hA hP rest hk2 hs2) (zOK hP) h1 h2
    cases hc:a2p o with
    |false=>simp only[b8D,hc]at h2;simp only[b1p,hc];exact plain h2
    |true=>
     cases fl with
     |false=>simp only[b8D,hc]at h2;simp only[b1p,hc];exact plain h2
     |true=>
      simp only[b8D,hc,b6I]at h2;simp only[b1p,hc];exact d1n (KY:=fun st=>a8r X ops rest st pr K) (K:=fun st'=>a4a (cx X w0 bor) ops rest st' pr fun st'=>∃sy',K sy'∧Sim A st' sy') hA hP h2 h1 fun st2 sy2 hk hs2=>a2G hA hP rest hk hs2
   ·exact R8 (D3 (w0:=w0) (bor:=bor) (s:=.v undef) h2 h1 (by simp only[j5])) fun st2 ⟨sy2,hk2,hs2⟩=>a2G hA hP rest hk2 hs2
  ·exact h.elim
end
mutual
theorem c4a{ok:Nat→Prop}{w:World}:∀(x y:D) (v:Value),leD x y→Rep ok w x v→Rep ok w y v
 |.v x,y,v,h,hr=>by
  simp only[leD]at h;rcases h with rfl|⟨rfl,z,rfl⟩
  ·exact hr
  ·simp only[Rep]at hr⊢;rw[hr.1];exact⟨none,0,rfl,y6 _,by simp,by simp,rfl,.inl rfl⟩
 |.agg l,y,v,h,hr=>by
  simp only[leD]at h;obtain⟨r,rfl,h⟩:=h;simp only[Rep]at hr⊢;obtain⟨a,h1,h2,h3⟩:=hr;exact⟨a,h1,b4K l r _ h h2,b9T l r h h3⟩
 |.tup l,y,v,h,hr=>by
  simp only[leD]at h;obtain⟨r,rfl,h⟩:=h;simp only[Rep]at hr⊢;obtain⟨a,h1,h2⟩:=hr;exact⟨a,h1,b4K l r _ h h2⟩
 |.lst _ _ _,y,v,h,hr=>by simp only[leD]at h;subst h;exact hr
 |.ptr _ _,y,v,h,hr=>by simp only[leD]at h;subst h;exact hr
 |.mp _,y,v,h,hr=>by simp only[leD]at h;subst h;exact hr
 |.fn _ _ _,y,v,h,hr=>by simp only[leD]at h;subst h;exact hr
 |.own _ _,_,_,_,hr=>by simp[Rep]at hr
 |.ownx _ _,_,_,_,hr=>by simp[Rep]at hr
 |.row _ _,_,_,_,hr=>by simp[Rep]at hr
 |.elr _ _ _ _,_,_,_,hr=>by simp[Rep]at hr
 |.osl _ _ _ _ _,_,_,_,hr=>by simp[Rep]at hr
 |.und,_,_,_,hr=>by simp[Rep]at hr
 |.bad,_,_,_,hr=>by simp[Rep]at hr
theorem b4K{ok:Nat→Prop}{w:World}:∀(l r:List D) (v:List Value),a4V l r→l5 ok w l v→l5 ok w r v
 |[],[],v,_,hr=>hr
 |x::l,y::r,v::vs,h,hr=>by
  simp only[a4V]at h;simp only[l5]at hr⊢;exact⟨c4a x y v h.1 hr.1,b4K l r vs h.2 hr.2⟩
 |_::_,_::_,[],_,hr=>by simp[l5]at hr
 |[],_::_,_,h,_=>by simp[a4V]at h
 |_::_,[],_,h,_=>by simp[a4V]at h
end
mutual
theorem d5t:∀(x:D),leD x x
 |.v x=>by simp only[leD];exact .inl trivial
 |.agg l=>by simp only[leD];exact⟨l,rfl,a4V.refl l⟩
 |.tup l=>by simp only[leD];exact⟨l,rfl,a4V.refl l⟩
 |.lst _ _ _=>by simp only[leD]
 |.ptr _ _=>by simp only[leD]
 |.mp _=>by simp only[leD]
 |.fn _ _ _=>by simp only[leD]
 |.own _ _=>by simp only[leD]
 |.ownx _ _=>by simp only[leD]
 |.row _ _=>by simp only[leD]
 |.elr _ _ _ _=>by simp only[leD]
 |.osl _ _ _ _ _=>by simp only[leD]
 |.und=>by simp only[leD]
 |.bad=>by simp only[leD]
theorem a4V.refl:∀(l:List D),a4V l l
 |[]=>trivial
 |x::l=>⟨d5t x,a4V.refl l⟩
end
theorem p0.le{P:Program}{f:FuncId}{args args':List D}{Q:D→Prop}(h:p0 P f args' Q)(hl:a4V args args'):p0 P f args Q:=fun ok w vs hr hok hg=>h ok w vs (b4K _ _ _ hl hr) hok hg
theorem p0.mono{P:Program}{f:FuncId}{args:List D}{Q Q':D→Prop}(h:p0 P f args Q)(hq:∀r,Q r→Q' r):p0 P f args Q':=fun ok w vs hr hok hg=>
 (h ok w vs hr hok hg).mono fun _ _ ⟨v,r,h1,h2,h3⟩=>⟨v,r,h1,hq r h2,h3⟩
section
variable {A : Nat → Prop}{X : Cy}{w0 : World}{bor : List Nat}{st : St}{sy : Sy}{a : Act}{w : World}
theorem a4m(hA:AG A X.P w0 bor)(hP:POK X.P X.tt)(c:Code):∀(st:St) (sy:Sy) (a:Act) (w:World) (K:Exit→Sy→Prop) (Q:Exit→Act→World→Prop),S0 X c sy K→Sim A st sy→Rel (cx X w0 bor) st a w→
 (∀e st' sy' a' w',plain e→K e sy'→Sim A st' sy'→Lv (cx X w0 bor) st.H w st' a' w'→Q e a' w')→c.wp X.P Q a w:=by
 induction c with
 |skip=>exact fun st sy a w K Q h hs hr hQ=>wp_skip (hQ .normal st sy a w trivial h hs (Lv.refl hr))
 |label l=>exact fun st sy a w K Q h hs hr hQ=>wp_label (hQ .normal st sy a w trivial h hs (Lv.refl hr))
 |exit id=>exact fun st sy a w K Q h hs hr hQ=>wp_exit (hQ (.exit id) st sy a w trivial h hs (Lv.refl hr))
 |ret=>exact fun st sy a w K Q h hs hr hQ=>wp_ret (hQ .ret st sy a w trivial h hs (Lv.refl hr))
 |region id ops draw=>
  intro st sy a w K Q h hs hr hQ;cases draw with
  |false=>exact a7e (b2j hA hP ops.toList _ _ a w _ h hs hr fun st' sy' a' w' hk hs' hl=>hQ .normal st' sy' a' w' trivial hk hs' hl)
  |true=>
   simp only[S0]at h;split at h
   ·obtain⟨T,H,nk⟩:=sy;obtain⟨T',H',nk',ws,lo,iv⟩:=st;have hx:=a2G (w0:=w0) (bor:=bor) hA hP _ h.2 (b5W (ops:=ops.toList) hs);exact wp_region_any hP.mix (a4F (X:=cx X w0 bor) hP hr h.1 hx fun st' a' w' ⟨sy',hk,hs'⟩ hl=>hQ .normal st' sy' a' w' trivial hk hs' hl)
   ·exact h.elim
 |seq x y ihx ihy=>
  intro st sy a w K Q h hs hr hQ;refine wp_seq (ihx st sy a w _ _ h hs hr fun e st1 sy1 a1 w1 hp hk hs1 hl=>?_);cases e with
  |normal=>exact ihy st1 sy1 a1 w1 K Q hk hs1 hl.rel fun e st2 sy2 a2 w2 hp hk2 hs2 hl2=>hQ e st2 sy2 a2 w2 hp hk2 hs2 (Lv.trans hl hl2)
  |exit id=>exact hQ _ _ _ _ _ hp hk hs1 hl
  |ret=>exact hQ _ _ _ _ _ hp hk hs1 hl
  |goto l=>exact hp.elim
  |panic c=>exact hp.elim
  |outgrown=>exact hp.elim
 |cond c x y ihx ihy=>
  intro st sy a w K Q h hs hr hQ;simp only[S0]at h;split at h
  ·rename_i b hc;obtain⟨s,h1,h2,_⟩:=o0 hs hc;have:=h2.sc;subst this;have hb:a.eval c=.bool b:=by simpa[den]using (hr.ev c _ h1).2
   cases b with
   |true=>exact wp_cond_true hb (ihx st sy a w K Q h hs hr hQ)
   |false=>exact wp_cond_false hb (ihy st sy a w K Q h hs hr hQ)
  ·exact h.elim
 |block id c ih=>
  intro st sy a w K Q h hs hr hQ;refine wp_block (ih st sy a w _ _ h hs hr fun e st1 sy1 a1 w1 hp hk hs1 hl=>?_);cases e with
  |normal=>exact hQ _ _ _ _ _ hp hk hs1 hl
  |exit j=>
   simp only[Exit.inBlock];simp only at hk;split at hk
   ·rename_i hb;rw[k9 (z7 hb)];exact hQ .normal _ _ _ _ trivial hk hs1 hl
   ·rename_i hb;rw[j6 (a3y hb)];exact hQ _ _ _ _ _ hp hk hs1 hl
  |ret=>exact hQ _ _ _ _ _ hp hk hs1 hl
  |goto l=>exact hp.elim
  |panic c=>exact hp.elim
  |outgrown=>exact hp.elim
 |scope c ih=>
  intro st sy a w K Q h hs hr hQ;refine wp_scope_straight (ih st sy a w K _ h hs hr fun e st1 sy1 a1 w1 hp hk hs1 hl=>?_);cases e with
  |normal=>exact hQ _ _ _ _ _ hp hk hs1 hl
  |exit j=>exact hQ _ _ _ _ _ hp hk hs1 hl
  |ret=>exact hQ _ _ _ _ _ hp hk hs1 hl
  |goto l=>exact hp.elim
  |panic c=>exact hp.elim
  |outgrown=>exact hp.elim
 |loop c ih=>
  intro st sy a w K Q h hs hr hQ;have h:B1 (S0 X c) sy K:=h;obtain⟨α,f,inv,μ,⟨x0,hsub,hinv⟩,hround⟩:=h.ex;obtain⟨st0,hs0,hr0,hb0⟩:=hsub.rel hA hs hr;refine wp_loop_ghost (fun n a1 w1=>∃x,μ x=n∧inv x∧∃st1,Sim A st1 (f x)∧Lv (cx X w0 bor) st.H w st1 a1 w1) (μ x0) ⟨x0,rfl,hinv,st0,hs0,hr0,Fx.refl _ _,fun b hb=>.inl (hb0 b hb)⟩ ?_;rintro n a1 w1 ⟨x,rfl,hinv1,st1,hs1,hlv⟩;refine ih st1 (f x) a1 w1 _ _ (hround x hinv1) hs1 hlv.rel fun e st2 sy2 a2 w2 hp hk hs2 hl=>?_
  have hl2:=Lv.trans hlv hl;cases e with
  |normal=>
   obtain⟨y,hsb,hi,hlt⟩:=hk;obtain⟨st3,hs3,hr3,hb3⟩:=hsb.rel hA hs2 hl2.rel;exact⟨μ y,hlt,y,rfl,hi,st3,hs3,hr3,hl2.fx,fun b hb=>hl2.bs b (hb3 b hb)⟩
  |exit j=>exact hQ _ _ _ _ _ hp hk hs2 hl2
  |ret=>exact hQ _ _ _ _ _ hp hk hs2 hl2
  |goto l=>exact hp.elim
  |panic c=>exact hp.elim
  |outgrown=>exact hp.elim
 |_=>intro st sy a w K Q h hs hr hQ;exact h.elim
theorem b1V(hA:AG A X.P w0 bor){Qr:D→Prop}{r:D}{s:SV}(h:a2Q sy r Qr)(hs:Sim A st sy)(hr:Rel (cx X w0 bor) st a w)(hrel:j5 (okS A st) st.w (B0 st) r s):
 ∃r',Qr r'∧Rep (fun b=>A b∧b<w.heap.size) w r' (den st.H s):=by
 have hc:=hr.now.cls;have hs0:=hs.now hr.cls;have h0:j5 (okS A (now st w)) w (B0 (now st w)) r s:=j5.mono (a5h hr.cls) (fun _ _ h=>h) _ _ hrel;unfold a2Q at h;split at h
 ·rename_i hcl;obtain⟨r',hle,hq⟩:=h.ex;exact⟨r',hq,c4a _ _ _ hle (Rep.mono (fun b hb=>⟨⟨hb.1.2,hb.2.1⟩,rfl⟩) _ _ (a5b (H:=st.H) _ _ h0 hcl))⟩
 ·split at h
  ·rename_i sy' r1 hfz;split at h
   ·rename_i hcl;obtain⟨r',hle,hq⟩:=h.ex;obtain⟨st1,l1,c1,a1,s1,b1,o1,g1,g2⟩:=a7h (Xx:=cx X w0 bor) hA.a _ hc ⟨rfl,rfl,rfl⟩ hs0 (l:=[r]) (r:=[s]) (by exact⟨h0,trivial⟩) hfz;obtain⟨s1',rfl,g3⟩:=g1.one1;simp only[o6,a8w,and_true]at g2;have g2:den st1.H s1'=den st.H s:=g2;refine⟨r',hq,c4a _ _ _ hle ?_⟩;rw[←g2];exact Rep.mono (fun b hb=>⟨⟨hb.1.2,by have:=hb.2.1;rw[a1.1]at this;exact this⟩,rfl⟩) _ _ (a5b (H:=st1.H) _ _ g3 hcl)
   ·exact h.elim
  ·exact h.elim
end
theorem d1F{X:Cy}(hP:POK X.P X.tt){f:FuncId}{fn:Func}{c:Code}(args:List D){Qr:D→Prop}(hf:X.P.funcs[f]?=some fn)(hb:fn.body=some c)(hn:X.nt=fn.ntmps)(hl:args.length≤fn.ntmps)
 (h:S0 X c ⟨a1Y 0 args,[],0⟩ (c3z X fn.results.toList Qr)) (h0:X.dfs=[]:=by rfl) (hg:fn.ntmps≤L3:=by exact J6 rfl):p0 X.P f args Qr:=by
 intro ok w vl hrep hok hgi;have hA:=AG.nil ok hgi;refine calls_of_wp hf hb (a4m (A:=fun b=>b<w.heap.size→ok b) (w0:=w) (bor:=[]) hA hP c ⟨a4O 0 (vs vl),[],0,w,w.heap.size,[]⟩ ⟨a1Y 0 args,[],0⟩ _ _ _ _ h ?_ ?_ fun e st' sy' a' w' hp hk hs' hlv=>?_)
 ·refine⟨fun d x hx=>?_,fun k e he=>by simp[m7]at he,rfl,fun j _=>a3Q,fun _ _=>rfl⟩;obtain⟨_,h2⟩:=a2D hx;obtain⟨y,h3,h4⟩:=hrep.get h2;right;refine⟨.v y,a5H (L0 _) ?_,Rep.rel _ _ (Rep.mono (fun b hb=>⟨⟨⟨.inl (hok b hb),fun _=>hb⟩,hok b hb,fun c hc=>by simp[bs]at hc⟩,rfl⟩) _ _ h4)⟩
  have:∀(l:List Value) (j:Nat),(vs l)[j]?=(l[j]?).map .v:=by
   intro l
   induction l with
   |nil=>simp[vs]
   |cons x l ih=>intro j;cases j<;>simp[vs,ih]
  rw[this,h3];rfl
 ·refine⟨by simp[cx,hn,←hrep.length];omega,fun d s hs=>?_,h0.symm,Cls.nil (cx X w []) 0,y6 _,by simp⟩;obtain⟨_,h2⟩:=a2N (n:=0) hs
  have:∀(l:List Value) (j:Nat),(vs l)[j]?=(l[j]?).map .v:=by
   intro l
   induction l with
   |nil=>simp[vs]
   |cons x l ih=>intro j;cases j<;>simp[vs,ih]
  simp only[a6l]at h2;rw[this]at h2;cases hv:vl[d]? with
  |none=>rw[hv]at h2;cases h2
  |some y=>
   rw[hv]at h2;cases h2;right;have hlt:=(P3.1 hv).1;rw[N1,k9 (by have:=hrep.length;omega),a6S (by simpa using hlt)]
   simpa[den]using hv
 ·have main:∀ {r:D}{s:SV},a2Q sy' r Qr→j5 (okS (fun b=>b<w.heap.size→ok b) st') st'.w (B0 st') r s→(results fn a'.tmps).run X.P w'=.ok (den st'.H s) w'→a'.defers=[]∧∃v,(results fn a'.tmps).run X.P w'=.ok v w'∧∃v1 r,Ending.returned v=.returned v1∧Qr r∧Rep (fun b=>ok b∨(w.heap.size≤b∧b<w'.heap.size)) w' r v1∧Below w.heap.size w w':=by
   intro r s hret hrel hrun;obtain⟨r',hq,hrp⟩:=b1V hA hret hs' hlv.rel hrel;refine⟨hlv.rel.dfs.trans h0,_,hrun,_,r',rfl,hq,Rep.mono (fun b hb=>⟨?_,rfl⟩) _ _ hrp,hlv.fx.below⟩;by_cases hlt:b<w.heap.size
   ·exact .inl (hb.1 hlt)
   ·exact .inr ⟨by omega,hb.2⟩
  have fin:(match a1G X sy' fn.results.toList with
   |some [s]=>a2Q sy' s Qr
   |some l=>a2Q sy' (.tup l) Qr
   |none=>False)→a'.defers=[]∧∃v,(results fn a'.tmps).run X.P w'=.ok v w'∧∃v1 r,Ending.returned v=.returned v1∧Qr r∧Rep (fun b=>ok b∨(w.heap.size≤b∧b<w'.heap.size)) w' r v1∧Below w.heap.size w w':=by
   intro hk;cases hres:a1G X sy' fn.results.toList with
   |none=>rw[hres]at hk;exact hk.elim
   |some l=>
    rw[hres]at hk;obtain⟨l',h1,h2⟩:=a4q (w0:=w) (bor:=[]) hs' hres;have hrun:=a2s (X:=cx X w []) hP.tt hlv.rel h1
    match l,l',h2,hk,hrun with
    |[s],[s'],h2,hk,hrun=>exact main hk h2.1 hrun
    |[],[],h2,hk,hrun=>exact main (s:=.tup []) hk (by simp only[j5];exact .inl ⟨[],rfl,trivial⟩) (by simpa[den,a9Z,cx]using hrun)
    |x::y::l,x'::y'::l',h2,hk,hrun=>exact main (s:=.tup (x'::y'::l')) hk (by simp only[j5];exact .inl ⟨_,rfl,h2⟩) (by simpa[den,a9Z,cx]using hrun)
    |[],_::_,h2,_,_=>simp[j9]at h2
    |[_],[],h2,_,_=>simp[j9]at h2
    |[_],_::_::_,h2,_,_=>simp[j9]at h2
    |_::_::_,[],h2,_,_=>simp[j9]at h2
    |_::_::_,[_],h2,_,_=>simp[j9]at h2
  cases e with
  |normal=>exact fin hk
  |ret=>exact fin hk
  |exit id=>exact hk.elim
  |goto l=>exact hp.elim
  |panic c=>exact hp.elim
  |outgrown=>exact hp.elim
abbrev DI(z:Int):D:=.v (.int .i64 z)
abbrev DB(b:Bool):D:=.v (.bool b)
abbrev lD{α:Type}(z:Nat)(x:List α)(c:α→List D):D:=.lst z x.length (x.flatMap c)
abbrev rE{α:Type}(z:Nat)(x:List α)(c:α→List D)(ty:TypeId):E:=.row z x.length (x.flatMap c) ty
theorem VIf.b{α:Type}{b:Bool}{p q:Prop}{x y r:Option α}(h1:b=true→x=r→p)(h2:b=false→y=r→q):(if b=true then x else y)=r→VIf b p q:=by
 intro h;cases b with
 |true=>exact h1 rfl h
 |false=>exact h2 rfl h
theorem tR{T:List (Nat×D)}{d:Nat}{x:D}(h:u0 T d=some x):∃y,u0 T d=some y∧leD y x:=⟨x,h,d5t x⟩
theorem b1y.refl:∀(l:List D),b1y l l
 |[]=>trivial
 |x::l=>by
  have h:=b1y.refl l;cases x<;>simp only[b1y]<;>first|exact h|exact⟨d5t _,h⟩
theorem hR{H:Hy}{k:Nat}{cs:List D}{ty:TypeId}(h:m7 H k=some (.blk cs ty)):∃cs0,m7 H k=some (.blk cs0 ty)∧b1y cs0 cs:=⟨cs,h,b1y.refl cs⟩
theorem hW{H:Hy}{k z m m0:Nat}{l:List D}{ty:TypeId}(h:m7 H k=some (.row z m0 l ty))(hm:m0=m:=by first|rfl|simp):∃m0 l0,m7 H k=some (.row z m0 l0 ty)∧m0=m∧l0=l:=⟨m0,l,h,hm,rfl⟩
theorem b0t.det{P:Program}{f:FuncId}{args:List D}{st:Sy}{K:Sy→D→Prop}{r:D}(h:p0 P f args fun x=>x=r)(hk:K st r):b0t P f args st K:=⟨⟨_,h,fun x hx=>hx▸hk⟩⟩
theorem b0t.any{P:Program}{f:FuncId}{args:List D}{st:Sy}{K:Sy→D→Prop}{Q:D→Prop}(h:p0 P f args Q)(hk:∀r,Q r→K st r):b0t P f args st K:=⟨⟨_,h,hk⟩⟩
theorem b1O.det{P:Program}{seq:Bool}{f:FuncId}{fa:List D}{st st':Sy}{K:Sy→D→Prop}{r:D}(h:p0 P f fa fun x=>x=r) (hk:match a6H r,seq with
 |true,_=>K st r
 |false,true=>K st' r
 |false,false=>False):b1O P seq f fa st st' K:=⟨⟨_,h,fun x hx=>hx▸hk⟩⟩
theorem n8.pure{r:D}:n8 r fun x=>x=r:=⟨⟨r,d5t r,rfl⟩⟩
theorem n8.eq{r s:D}(h:r=s):n8 r fun x=>x=s:=⟨⟨r,d5t r,h⟩⟩
theorem d5v{r s:D}(h:leD r s):n8 r fun x=>x=s:=⟨⟨s,h,rfl⟩⟩
theorem B1.of{body:Sy→(Exit→Sy→Prop)→Prop}{st:Sy}{K:Exit→Sy→Prop}{α:Type}(f:α→Sy)(inv:α→Prop)(μ:α→Nat)(x0:α)(h0:I1 st (f x0))(hi:inv x0)
 (h:∀x,inv x→body (f x) fun e st2=>match e with
  |.normal=>∃y,I1 st2 (f y)∧inv y∧μ y<μ x
  |e=>K e st2):B1 body st K:=⟨⟨α,f,inv,μ,⟨x0,h0,hi⟩,h⟩⟩
theorem I1.of{st st':Sy}(n:Nat)(h1:a7E n st'=true)(h2:b1r n st.T st'.T)(h3:b0q n st.H st'.H):I1 st st':=⟨[],st,rfl,⟨.inl ⟨n,h1,h2,h3⟩⟩⟩
theorem I1.fz{st st1 st':Sy}(ks:List Nat)(hf:a5f ks st []=some (st1,[]))(n:Nat)(h1:a7E n st'=true)(h2:b1r n st1.T st'.T)(h3:b0q n st1.H st'.H):I1 st st':=⟨ks,st1,hf,⟨.inl ⟨n,h1,h2,h3⟩⟩⟩
theorem I1.rn{st st1 st':Sy}(a b m:Nat)(ks:List Nat)(hf:a5f ks st []=some (st1,[]))(hab:(Nat.blt a m&&Nat.blt b m)=true)(n:Nat)(h1:a7E n ⟨b7i a b st'.T,b7b a b st'.H,m⟩=true)(h2:b1r n st1.T (b7i a b st'.T))(h3:b0q n st1.H (b7b a b st'.H))
 (n':Nat) (g1:a7E n' st'=true) (g2:b1r n' st'.T st'.T) (g3:b0q n' st'.H st'.H):I1 st st':=
 ⟨ks,st1,hf,⟨.inr ⟨a,b,m,by simpa using hab,⟨n,h1,h2,h3⟩,⟨n',g1,g2,g3⟩⟩⟩⟩
theorem c8v.of{X:Cy}(hP:POK X.P X.tt){c:Code}{st0:Sy}{K:Exit→Sy→Prop}(h:∀sv,S0 { X with sv:=sv} c st0 K):c8v X c st0 K:=
 fun _ _ _ sv st a w Q hA hs hr hQ=>a4m (X:= { X with sv:=sv}) hA hP c st st0 a w K Q (h sv) hs hr hQ
theorem a3r.ofP{X:Cy}{f:FuncId}{args:List D}{dst:Option Nat}{st:Sy}{K:Sy→Prop}(hP:POK X.P X.tt)(st0 st1:Sy)(pl:List (Nat×PT))(ln un inl:List Nat){fn:Func}{c:Code}(hf:X.P.funcs[f]?=some fn)(hb:fn.body=some c)
 (hg:Nat.ble fn.ntmps 1000000=true) (hl:Nat.ble args.length fn.ntmps=true) (hs:I1 ⟨a1Y 0 args++a0p X.nt st.T,st.H,st.nk⟩ st0)
 (hbody:∀sv,S0 ⟨X.P,X.tt,fn.ntmps,pl,ln,un,[],inl,sv⟩ c st0 (c8A X ⟨X.P,X.tt,fn.ntmps,pl,ln,un,[],inl,[]⟩ fn.results.toList dst fun sy=>I1 sy st1)) (hk:K st1):a3r X f args dst st K:=
 ⟨fn.ntmps,pl,ln,un,inl,fn,c,st0,st1,⟨hf,hb,rfl,hg,hl⟩,hs,.of (X:=⟨X.P,X.tt,fn.ntmps,pl,ln,un,[],inl,[]⟩) hP hbody,hk⟩
def gd{α:Type}(p:Prop)[Decidable p](k:Option α):Option α:=if p then k else none
theorem j0{α:Type}{p:Prop}[Decidable p]{k:Option α}{r:α}(h:gd p k=some r):p∧k=some r:=by
 unfold gd at h;split at h
 ·rename_i hp;exact⟨hp,h⟩
 ·cases h
theorem d9{α β:Type}{o:Option α}{f:α→Option β}{r:β}(h:Option.bind o f=some r):∃x,o=some x∧f x=some r:=by
 cases o with
 |none=>cases h
 |some x=>exact⟨x,rfl,h⟩
def S3{S E:Type}(body:S→Option (Sum S E)):Nat→S→Option E
 |0,_=>none
 |n+1,s=>match body s with
  |none=>none
  |some (.inl s')=>S3 body n s'
  |some (.inr e)=>some e
def a0X:Nat:=18446744073709551616
def o8{S E:Type}(body:S→Option (Sum S E))(s:S):Option E:=S3 body a0X s
theorem c5M{S E:Type}{body:S→Option (Sum S E)}{n:Nat}{s:S}{e:E}(h:S3 body n s=some e):∃m b,n=m+1∧body s=some b∧(match b with|.inl s'=>S3 body m s'=some e|.inr e'=>e'=e):=by
 cases n with
 |zero=>cases h
 |succ n=>
  simp only[S3]at h;cases hb:body s with
  |none=>rw[hb]at h;cases h
  |some b=>
   rw[hb]at h;refine⟨n,b,rfl,rfl,?_⟩;cases b with
   |inl s'=>exact h
   |inr e'=>cases h;rfl
theorem d5w{S E:Type}{body:Sy→(Exit→Sy→Prop)→Prop}{st:Sy}{K:Exit→Sy→Prop}(L:S→Option (Sum S E))(f:S→Sy)(s0:S){ev:E}(h0:I1 st (f s0))(he:o8 L s0=some ev)
 (h:∀n s b,L s=some b→(match b with|.inl s'=>S3 L n s'=some ev|.inr e'=>e'=ev)→body (f s) fun x st2=>match x with
  |.normal=>∃y:Nat×S,I1 st2 (f y.2)∧S3 L y.1 y.2=some ev∧y.1<n+1
  |x=>K x st2):B1 body st K:=by
 refine B1.of (fun x:Nat×S=>f x.2) (fun x=>S3 L x.1 x.2=some ev) (fun x=>x.1) (a0X,s0) h0 he ?_;rintro⟨n,s⟩ hi;obtain⟨m,b,rfl,hb,hc⟩:=c5M hi;exact h m s b hb hc
def idx{α:Type}(l:List α)(i:Int):Option α:=match decide (0≤i)with|true=>l[i.toNat]?|false=>none
theorem a1i{α:Type}{l:List α}{i:Int}{x:α}(h:idx l i=some x):0≤i∧l[i.toNat]?=some x:=by
 unfold idx at h;split at h
 ·rename_i hd;exact⟨of_decide_eq_true hd,h⟩
 ·cases h
theorem a1k{α:Type}{c:α→List D}{z:Nat}(hc:∀x,(c x).length=z)(l:List α):(l.flatMap c).length=l.length*z:=by
 induction l with
 |nil=>simp
 |cons x l ih=>simp[ih,hc,R7,Nat.add_comm]
theorem b9M{α:Type}{c:α→List D}{z:Nat}(hc:∀x,(c x).length=z):∀(l:List α) (i:Nat) {x:α},l[i]?=some x→el (l.flatMap c) z i=c x
 |[],i,x,h=>by simp at h
 |y::l,0,x,h=>by
  simp at h;subst h;simp only[el,Nat.zero_mul,List.drop_zero,U0];rw[b1F (by rw[hc];exact y6 _),a5m (by rw[hc];exact y6 _)]
 |y::l,i+1,x,h=>by
  simp at h;have ih:=b9M hc l i h;simp only[el,U0]at ih⊢;have:(i+1)*z=(c y).length+i*z:=by rw[hc,R7];omega
  rw[this,List.drop_append,List.drop_eq_nil_of_le (by omega)];simpa using ih
theorem d1W{α:Type}{c:α→List D}{z:Nat}{l:List α}{i:Int}{x:α}(hc:∀x,(c x).length=z)(h:idx l i=some x):el (l.flatMap c) z i.toNat=c x∧0≤i∧i<l.length:=by
 obtain⟨h1,h2⟩:=a1i h;have:=(P3.1 h2).1;exact⟨b9M hc l _ h2,h1,by omega⟩
theorem a2x{α:Type}{l:List α}{i:Int}{x:α}(h:idx l i=some x):0≤i∧i<l.length:=by
 obtain⟨h1,h2⟩:=a1i h;have:=(P3.1 h2).1;exact⟨h1,by omega⟩
theorem c3T{α:Type}{c:α→List D}{z:Nat}{l:List α}{i:Int}{x:α}(hc:∀x,(c x).length=z)(h:idx l i=some x):el (l.flatMap c) z i.toNat=c x∧i.toNat<l.length:=by
 obtain⟨h1,h2⟩:=a1i h;exact⟨b9M hc l _ h2,(P3.1 h2).1⟩
theorem c1B{α:Type}{c:α→List D}{z:Nat}(hc:∀x,(c x).length=z):∀(l:List α) (i:Nat) (x:α),i<l.length→b1l (l.flatMap c) z i (c x)=(l.set i x).flatMap c
 |[],i,x,h=>by simp at h
 |y::l,0,x,h=>by
  simp only[b1l,Nat.zero_mul,a7Q,a2B,a0k,U0,List.set_cons_zero];rw[List.drop_append,List.drop_eq_nil_of_le (by rw[hc];exact y6 _),hc];simp
 |y::l,i+1,x,h=>by
  simp at h;have ih:=c1B hc l i x h;simp only[b1l,U0,List.set_cons_succ]at ih⊢;have e1:(i+1)*z=(c y).length+i*z:=by rw[hc,R7];omega
  have e2:(i+1)*z+z=(c y).length+(i*z+z):=by rw[hc,R7];omega
  rw[e1,←hc y,Nat.add_assoc,List.take_append,List.drop_append,a5m (by omega),List.drop_eq_nil_of_le (by omega)];rw[hc,←ih];simp[a3z]
theorem c4H{α:Type}{c:α→List D}{z:Nat}{l:List α}{i:Int}{x y:α}(hc:∀x,(c x).length=z)(h:idx l i=some x):b1l (l.flatMap c) z i.toNat (c y)=(l.set i.toNat y).flatMap c:=
 c1B hc l _ y (P3.1 (a1i h).2).1
theorem l6{α:Type}{c:α→List D}{l r:List α}:l.flatMap c++r.flatMap c=(l++r).flatMap c∧l.length+r.length=(l++r).length:=by simp
theorem b7J{α:Type}{c:α→List D}{z:Nat}(hc:∀x,(c x).length=z):∀(n:Nat) (l:List α),(l.flatMap c).drop (n*z)=(l.drop n).flatMap c
 |0,l=>by simp
 |n+1,[]=>by simp
 |n+1,x::l=>by
  have e1:(n+1)*z=(c x).length+n*z:=by rw[hc,R7];omega
  rw[U0,e1,List.drop_append,List.drop_eq_nil_of_le (by omega)];simpa using b7J hc n l
theorem a9I{α:Type}{c:α→List D}{z:Nat}(hc:∀x,(c x).length=z):∀(n:Nat) (l:List α),(l.flatMap c).take (n*z)=(l.take n).flatMap c
 |0,l=>by simp
 |n+1,[]=>by simp
 |n+1,x::l=>by
  have e1:(n+1)*z=(c x).length+n*z:=by rw[hc,R7];omega
  rw[U0,e1,List.take_append,a5m (by omega)];simpa using a9I hc n l
def sub{α:Type}(l:List α)(a b:Nat):List α:=(l.drop a).take (b-a)
theorem S1{α:Type}{c:α→List D}{z:Nat}(hc:∀x,(c x).length=z)(a b:Nat)(l:List α):((l.flatMap c).drop (a*z)).take ((b-a)*z)=(sub l a b).flatMap c:=by
 rw[b7J hc,a9I hc];rfl
theorem a0r{α:Type}{l:List α}{a b:Nat}(h:b≤l.length):(sub l a b).length=b-a:=by simp[sub];omega
theorem leD.eq{x y:D}(h:x=y):leD x y:=h▸d5t x
theorem a4V.eq{x y:List D}(h:x=y):a4V x y:=h▸a4V.refl x
theorem d5u{z:Nat}:leD (.v (.slice none 0 0)) (.lst z 0 []):=by simp only[leD];exact .inr ⟨trivial,z,rfl⟩
abbrev cI(x:Int):List D:=[DI x]
abbrev cB(x:Bool):List D:=[DB x]
theorem a9g(l:List Value)(j:Nat):(vs l)[j]?=(l[j]?).map .v:=by
 induction l generalizing j with
 |nil=>simp[vs]
 |cons x l ih=>cases j<;>simp[vs,ih]
structure d2d(e:E)(z' z n:Nat)(l:List D)(ty:TypeId):Prop where
 ex:e=.row z n l ty∧z'=z
def b4U(st:Sy)(z n:Nat)(l:List D)(ty:TypeId)(r:D):Prop:=
 match r with
 |.row k z'=>match m7 st.H k with
  |some e=>d2d e z' z n l ty
  |none=>False
 |.v (.slice none 0 0)=>n=0∧l=[]
 |_=>False
def b6o(X:Cy)(rs:List ResultVar)(z n:Nat)(l:List D)(ty:TypeId)(e:Exit)(st:Sy):Prop:=
 match e with
 |.normal=>match a1G X st rs with
  |some [s]=>b4U st z n l ty s
  |_=>False
 |.ret=>match a1G X st rs with
  |some [s]=>b4U st z n l ty s
  |_=>False
 |_=>False
section
variable {A : Nat → Prop}{X : Cy}{w0 : World}{bor : List Nat}{st : St}{sy : Sy}{a : Act}{w : World}
theorem c9v{z n:Nat}{l:List D}{ty:TypeId}{r:D}{s:SV}(h:b4U sy z n l ty r)(hs:Sim A st sy)(hr:Rel (cx X w0 bor) st a w)(hrel:j5 (okS A st) st.w (B0 st) r s):
 b1X (fun b=>(A b∧b<w.heap.size)∧b∉r6 (den st.H s)) w z n l ty (den st.H s)∧∀b,b∈r6 (den st.H s)→b∈bor∨w0.heap.size≤b:=by
 unfold b4U at h;split at h
 ·rename_i k z';split at h
  ·rename_i e he;obtain⟨rfl,rfl⟩:=h.ex;simp only[j5]at hrel;obtain⟨rfl,_⟩:=hrel;obtain⟨e',hf',hre⟩:=hs.H _ _ he;cases e' with
   |blk=>exact hre.elim
   |mp=>exact hre.elim
   |row v n1 xs z1 ty1=>
    obtain⟨rfl,rfl,rfl,hrep,hfl,hlen⟩:=hre;have hdv:den st.H (.row k)=v:=by simp[den,o5,hf']
    rw[hdv];have hb:∀b,b∈r6 v→b∈bs st.H:=fun b hb=>A3.2 ⟨k,_,o7 hf',hb⟩
    refine⟨⟨xs,hr.cls.row hf',l5.mono (fun b hbk=>?_) _ _ hrep,hfl,hlen⟩,fun b hbv=>hr.cls.lb b (hb b hbv)⟩;have h2:=(a5h hr.cls) b hbk;exact⟨⟨⟨hbk.1.2,h2.1.2.1⟩,fun hc=>hbk.2.2 b (hb b hc) rfl⟩,h2.2⟩
  ·exact h.elim
 ·obtain⟨rfl,rfl⟩:=h;simp only[j5]at hrel;obtain⟨rfl,_⟩:=hrel;exact⟨⟨[],World.ownsRow_nil _ _ _ _,by simp[l5],rfl,by simp⟩,by simp[den,r6]⟩
 ·exact h.elim
theorem b9A(hP:POK X.P X.tt){fn:Func}{z n:Nat}{l:List D}{ty:TypeId}{e:Exit}{R:Ending→World→Prop}(hp:plain e)(h:b6o X fn.results.toList z n l ty e sy)(hs:Sim A st sy)(hr:Rel (cx X w0 bor) st a w)
 (hR:∀v,b1X (fun b=>(A b∧b<w.heap.size)∧b∉r6 v) w z n l ty v→(∀b,b∈r6 v→b∈bor∨w0.heap.size≤b)→R (.returned v) w) (h0:X.dfs=[]):bodyPost X.P fn R e a w:=by
 have fin:(match a1G X sy fn.results.toList with
  |some [s]=>b4U sy z n l ty s
  |_=>False)→a.defers=[]∧∃v,(results fn a.tmps).run X.P w=.ok v w∧R (.returned v) w:=by
  intro hk;cases hres:a1G X sy fn.results.toList with
  |none=>rw[hres]at hk;exact hk.elim
  |some l0=>
   rw[hres]at hk;obtain⟨l',h1,h2⟩:=a4q (w0:=w0) (bor:=bor) hs hres;have hrun:=a2s (X:=cx X w0 bor) hP.tt hr h1
   match l0,l',h2,hk,hrun with
   |[s],[s'],h2,hk,hrun=>
    obtain⟨g1,g2⟩:=c9v hk hs hr h2.1;exact⟨hr.dfs.trans h0,_,hrun,hR _ g1 g2⟩
   |[_],[],h2,_,_=>simp[j9]at h2
   |[_],_::_::_,h2,_,_=>simp[j9]at h2
 cases e with
 |normal=>exact fin h
 |ret=>exact fin h
 |exit id=>exact h.elim
 |goto l=>exact hp.elim
 |panic c=>exact hp.elim
 |outgrown=>exact hp.elim
end
theorem d1l{X:Cy}(hP:POK X.P X.tt){f:FuncId}{fn:Func}{c:Code}(args:List D){z n:Nat}{l:List D}{ty:TypeId}(hf:X.P.funcs[f]?=some fn)(hb:fn.body=some c)(hn:X.nt=fn.ntmps)(hl:args.length≤fn.ntmps)
 (h:S0 X c ⟨a1Y 0 args,[],0⟩ (b6o X fn.results.toList z n l ty)) (h0:X.dfs=[]:=by rfl) (hg:fn.ntmps≤L3:=by exact J6 rfl):b8M X.P f args z n l ty:=by
 intro ok w vl hrep hok hgi;have hA:=AG.nil ok hgi;refine calls_of_wp hf hb (a4m (A:=fun b=>b<w.heap.size→ok b) (w0:=w) (bor:=[]) hA hP c ⟨a4O 0 (vs vl),[],0,w,w.heap.size,[]⟩ ⟨a1Y 0 args,[],0⟩ _ _ _ _ h ?_ ?_ fun e st' sy' a' w' hp hk hs' hlv=>?_)
 ·refine⟨fun d x hx=>?_,fun k e he=>by simp[m7]at he,rfl,fun j _=>a3Q,fun _ _=>rfl⟩;obtain⟨_,h2⟩:=a2D hx;obtain⟨y,h3,h4⟩:=hrep.get h2;right;refine⟨.v y,a5H (L0 _) ?_,Rep.rel _ _ (Rep.mono (fun b hb=>⟨⟨⟨.inl (hok b hb),fun _=>hb⟩,hok b hb,fun c hc=>by simp[bs]at hc⟩,rfl⟩) _ _ h4)⟩;rw[a9g,h3];rfl
 ·refine⟨by simp[cx,hn,←hrep.length];omega,fun d s hs=>?_,h0.symm,Cls.nil (cx X w []) 0,y6 _,by simp⟩;obtain⟨_,h2⟩:=a2N (n:=0) hs;simp only[a6l]at h2;rw[a9g]at h2;cases hv:vl[d]? with
  |none=>rw[hv]at h2;cases h2
  |some y=>
   rw[hv]at h2;cases h2;right;have hlt:=(P3.1 hv).1;rw[N1,k9 (by have:=hrep.length;omega),a6S (by simpa using hlt)]
   simpa[den]using hv
 ·refine b9A hP hp hk hs' hlv.rel (fun v hrow hbl=>⟨v,rfl,fun b hb=>?_,?_,hlv.fx.below⟩) h0
  ·rcases hbl b hb with h|h
   ·cases h
   ·exact h
  ·obtain⟨xs,h1,h2,h3,h4⟩:=hrow;refine⟨xs,h1,l5.mono (fun b hbk=>⟨⟨?_,hbk.2⟩,rfl⟩) _ _ h2,h3,h4⟩;by_cases hlt:b<w.heap.size
   ·exact .inl (hbk.1.1 hlt)
   ·exact .inr ⟨by omega,hbk.1.2⟩
def a3e:List D→List Nat
 |[]=>[]
 |.row k _::l=>k::a3e l
 |_::l=>a3e l
def b9H(H:Hy):Nat→List (Nat×Nat×List D×TypeId)→List D→List D→Prop
 |_,rows,[],[]=>rows=[]
 |i,(z,n,l,ty)::rows,.row j z'::cells,.row k z''::cs=>(j=i∧z'=z∧z''=z∧m7 H k=some (.row z n l ty))∧b9H H (i+1) rows cells cs
 |i,(z,n,l,ty)::rows,.row j z'::cells,.v (.slice none 0 0)::cs=>(j=i∧z'=z∧n=0∧l=[])∧b9H H (i+1) rows cells cs
 |i,rows,d::cells,c::cs=>(a0T c=true∧c=d)∧b9H H i rows cells cs
 |_,_,_,_=>False
def c7p(st:Sy)(rows:List (Nat×Nat×List D×TypeId))(cells:List D):D→Prop
 |.agg cs=>ndB (a3e cs)=true∧b9H st.H 0 rows cells cs
 |_=>False
def c8R(X:Cy)(rs:List ResultVar)(rows:List (Nat×Nat×List D×TypeId))(cells:List D)(e:Exit)(st:Sy):Prop:=
 match e with
 |.normal=>match a1G X st rs with
  |some [s]=>c7p st rows cells s
  |_=>False
 |.ret=>match a1G X st rs with
  |some [s]=>c7p st rows cells s
  |_=>False
 |_=>False
section
variable {A : Nat → Prop}{X : Cy}{w0 : World}{bor : List Nat}{st : St}{sy : Sy}{a : Act}{w : World}
theorem b4J(hs:Sim A st sy)(hr:Rel (cx X w0 bor) st a w):∀(cs:List D) (i:Nat) (rows:List (Nat×Nat×List D×TypeId)) (cells:List D) (ss:List SV),b9H sy.H i rows cells cs→j9 (okS A st) st.w (B0 st) cs ss→
 ∃rv:List Value,(∀b,b∈rv.flatMap r6→∃k e,k∈a3e cs∧l4 st.H k=some e∧b∈bsE e)∧((a3e cs).Nodup→(rv.flatMap r6).Nodup)∧a4d (fun b=>(A b∧b<w.heap.size)∧b∉bs st.H) w rows rv∧
  ∀pre:List Value,pre.length=i→U5 (fun b=>(A b∧b<w.heap.size)∧b∉bs st.H) w (pre++rv) cells (o6 st.H ss)
 |[],i,rows,cells,ss,h,hrel=>by
  cases cells with
  |cons d cells=>simp[b9H]at h
  |nil=>
   simp only[b9H]at h;subst h;cases ss with
   |cons=>simp[j9]at hrel
   |nil=>exact⟨[],by simp,fun _=>by simp,trivial,fun _ _=>trivial⟩
 |c::cs,i,rows,cells,ss,h,hrel=>by
  cases ss with
  |nil=>simp[j9]at hrel
  |cons s ss=>
   simp only[j9]at hrel;obtain⟨h1,h2⟩:=hrel;unfold b9H at h;split at h
   ·rename_i heq;cases heq
   ·rename_i z n l ty rows j z' cells k z'' cs' heq;cases heq;obtain⟨⟨rfl,rfl,rfl,hk⟩,h⟩:=h;simp only[j5]at h1;obtain⟨rfl,_⟩:=h1;obtain⟨rv,g1,g2,g3,g4⟩:=b4J hs hr cs (j+1) rows cells ss h h2;obtain⟨e',hf',hre⟩:=hs.H _ _ hk;cases e' with
    |blk=>exact hre.elim
    |mp=>exact hre.elim
    |row v n1 xs z1 ty1=>
     obtain⟨rfl,rfl,rfl,hrep,hfl,hlen⟩:=hre;have hdv:den st.H (.row k)=v:=by simp[den,o5,hf']
     refine⟨v::rv,fun b hb=>?_,fun hn=>?_,⟨⟨xs,hr.cls.row hf',l5.mono (fun b hbk=>?_) _ _ hrep,hfl,hlen⟩,g3⟩,fun pre hp=>?_⟩
     ·simp only[U0,E3]at hb;rcases hb with hb|hb
      ·exact⟨k,_,by simp[a3e],hf',hb⟩
      ·obtain⟨k',e,q1,q2,q3⟩:=g1 b hb;exact⟨k',e,by simp[a3e,q1],q2,q3⟩
     ·simp only[a3e,a4i]at hn;simp only[U0,a6X];refine⟨a7R v,g2 hn.2,fun b hb b' hb' heq=>?_⟩;subst heq;obtain⟨k',e,q1,q2,q3⟩:=g1 b hb';have hne:k≠k':=fun e=>hn.1 (e▸q1)
      exact a4o hr.cls.nd hr.cls.keys (o7 hf') (o7 q2) hne hb q3
     ·have h3:=(a5h hr.cls) b hbk;exact⟨⟨⟨hbk.1.2,h3.1.2.1⟩,fun hc=>hbk.2.2 b hc rfl⟩,h3.2⟩
     ·have h5:=g4 (pre++ [v]) (by simp[hp]);rw[a3z,b3G]at h5;simp only[o6,hdv,U5];exact⟨by rw[b7X (by omega),←hp];simp,h5⟩
   ·rename_i z n l ty rows j z' cells cs' heq;cases heq;obtain⟨⟨rfl,rfl,rfl,rfl⟩,h⟩:=h;simp only[j5]at h1;obtain⟨rfl,_⟩:=h1;obtain⟨rv,g1,g2,g3,g4⟩:=b4J hs hr cs (j+1) rows cells ss h h2;refine⟨.slice none 0 0::rv,fun b hb=>?_,fun hn=>?_,⟨⟨[],World.ownsRow_nil _ _ _ _,by simp[l5],rfl,by simp⟩,g3⟩,fun pre hp=>?_⟩
    ·simp only[U0,r6,a2B]at hb;exact g1 b hb
    ·simpa[r6]using g2 hn
    ·have h5:=g4 (pre++ [.slice none 0 0]) (by simp[hp]);rw[a3z,b3G]at h5;simp only[o6,den,U5];exact⟨by rw[b7X (by omega),←hp];simp,h5⟩
   ·rename_i heq;cases heq;obtain⟨⟨hcl,rfl⟩,h⟩:=h;obtain⟨rv,g1,g2,g3,g4⟩:=b4J hs hr cs _ _ _ ss h h2
    have hkeys:a3e (c::cs)=a3e cs:=by
     cases c<;>first|rfl|simp[a0T]at hcl
    have hrc:=Rep.mono (w':=w) (ok':=fun b=>(A b∧b<w.heap.size)∧b∉bs st.H) (fun b hb=>by
     have h3:=(a5h hr.cls) b hb;exact⟨⟨⟨hb.1.2,h3.1.2.1⟩,fun hc=>hb.2.2 b hc rfl⟩,h3.2⟩) _ _ (a5b (H:=st.H) _ _ h1 hcl)
    refine⟨rv,by rw[hkeys];exact g1,by rw[hkeys];exact g2,g3,fun pre hp=>?_⟩;have h5:=g4 pre hp;cases c<;>first|(simp only[o6,U5];exact⟨hrc,h5⟩)|simp[a0T]at hcl
   ·exact h.elim
theorem d3e(hP:POK X.P X.tt){fn:Func}{rows:List (Nat×Nat×List D×TypeId)}{cells:List D}{e:Exit}{R:Ending→World→Prop}(hp:plain e)(h:c8R X fn.results.toList rows cells e sy)(hs:Sim A st sy)(hr:Rel (cx X w0 bor) st a w)
 (hR:∀(av rv:List Value),(∀b,b∈rv.flatMap r6→b∈bs st.H)→(rv.flatMap r6).Nodup→a4d (fun b=>(A b∧b<w.heap.size)∧b∉bs st.H) w rows rv→U5 (fun b=>(A b∧b<w.heap.size)∧b∉bs st.H) w rv cells av→R (.returned (.agg av.toArray)) w) (h0:X.dfs=[]):bodyPost X.P fn R e a w:=by
 have fin:(match a1G X sy fn.results.toList with
  |some [s]=>c7p sy rows cells s
  |_=>False)→a.defers=[]∧∃v,(results fn a.tmps).run X.P w=.ok v w∧R (.returned v) w:=by
  intro hk;cases hres:a1G X sy fn.results.toList with
  |none=>rw[hres]at hk;exact hk.elim
  |some l0=>
   rw[hres]at hk;obtain⟨l',h1,h2⟩:=a4q (w0:=w0) (bor:=bor) hs hres;have hrun:=a2s (X:=cx X w0 bor) hP.tt hr h1
   match l0,l',h2,hk,hrun with
   |[s],[s'],h2,hk,hrun=>
    cases s with
    |agg cs=>
     obtain⟨hn,hk⟩:ndB (a3e cs)=true∧b9H sy.H 0 rows cells cs:=hk;have h3:=h2.1;simp only[j5]at h3;obtain⟨ss,hag,h3,_⟩:=h3;obtain⟨rv,g1,g2,g3,g4⟩:=b4J hs hr cs 0 rows cells ss hk h3;have hd:den st.H s'=.agg (o6 st.H ss).toArray:=b5x hag;refine⟨hr.dfs.trans h0,_,hrun,?_⟩;rw[show a9Z st.H [s']=den st.H s' from rfl,hd];exact hR _ rv (fun b hb=>by obtain⟨k,e,_,q2,q3⟩:=g1 b hb;exact A3.2 ⟨k,e,o7 q2,q3⟩) (g2 (b7v hn)) g3 (g4 [] rfl)
    |_=>exact hk.elim
   |[_],[],h2,_,_=>simp[j9]at h2
   |[_],_::_::_,h2,_,_=>simp[j9]at h2
 cases e with
 |normal=>exact fin h
 |ret=>exact fin h
 |exit id=>exact h.elim
 |goto l=>exact hp.elim
 |panic c=>exact hp.elim
 |outgrown=>exact hp.elim
end
theorem U5.mono{ok ok':Nat→Prop}{w:World}{rv:List Value}(hm:∀b,ok b→ok' b):∀(cells:List D) (a:List Value),U5 ok w rv cells a→U5 ok' w rv cells a
 |[],[],_=>trivial
 |[],_::_,h=>by simp[U5]at h
 |d::cells,[],h=>by cases d<;>simp[U5]at h
 |d::cells,y::a,h=>by
  cases d<;>simp only[U5]at h⊢
  case row=>exact⟨h.1,U5.mono hm cells a h.2⟩
  all_goals exact⟨Rep.mono (fun b hb=>⟨hm b hb,rfl⟩) _ _ h.1,U5.mono hm cells a h.2⟩
theorem a4d.mono{ok ok':Nat→Prop}{w:World}(hm:∀b,ok b→ok' b):∀(rows:List (Nat×Nat×List D×TypeId)) (rv:List Value),a4d ok w rows rv→a4d ok' w rows rv
 |[],[],_=>trivial
 |[],_::_,h=>by simp[a4d]at h
 |_::_,[],h=>by simp[a4d]at h
 |(z,n,l,ty)::rows,v::rv,h=>by
  simp only[a4d]at h⊢;obtain⟨⟨xs,h1,h2,h3⟩,h4⟩:=h;exact⟨⟨xs,h1,l5.mono (fun b hb=>⟨hm b hb,rfl⟩) _ _ h2,h3⟩,a4d.mono hm rows rv h4⟩
theorem d1X{X:Cy}(hP:POK X.P X.tt){f:FuncId}{fn:Func}{c:Code}(args:List D){rows:List (Nat×Nat×List D×TypeId)}{cells:List D}(hf:X.P.funcs[f]?=some fn)(hb:fn.body=some c)(hn:X.nt=fn.ntmps)(hl:args.length≤fn.ntmps)(hfl:B4 cells=true)
 (h:S0 X c ⟨a1Y 0 args,[],0⟩ (c8R X fn.results.toList rows cells)) (h0:X.dfs=[]:=by rfl) (hg:fn.ntmps≤L3:=by exact J6 rfl):b8m X.P f args rows cells:=by
 refine⟨hfl,fun ok w vl hrep hok hgi=>?_⟩;have hA:=AG.nil ok hgi;refine calls_of_wp hf hb (a4m (A:=fun b=>b<w.heap.size→ok b) (w0:=w) (bor:=[]) hA hP c ⟨a4O 0 (vs vl),[],0,w,w.heap.size,[]⟩ ⟨a1Y 0 args,[],0⟩ _ _ _ _ h ?_ ?_ fun e st' sy' a' w' hp hk hs' hlv=>?_)
 ·refine⟨fun d x hx=>?_,fun k e he=>by simp[m7]at he,rfl,fun j _=>a3Q,fun _ _=>rfl⟩;obtain⟨_,h2⟩:=a2D hx;obtain⟨y,h3,h4⟩:=hrep.get h2;right;refine⟨.v y,a5H (L0 _) ?_,Rep.rel _ _ (Rep.mono (fun b hb=>⟨⟨⟨.inl (hok b hb),fun _=>hb⟩,hok b hb,fun c hc=>by simp[bs]at hc⟩,rfl⟩) _ _ h4)⟩;rw[a9g,h3];rfl
 ·refine⟨by simp[cx,hn,←hrep.length];omega,fun d s hs=>?_,h0.symm,Cls.nil (cx X w []) 0,y6 _,by simp⟩;obtain⟨_,h2⟩:=a2N (n:=0) hs;simp only[a6l]at h2;rw[a9g]at h2;cases hv:vl[d]? with
  |none=>rw[hv]at h2;cases h2
  |some y=>
   rw[hv]at h2;cases h2;right;have hlt:=(P3.1 hv).1;rw[N1,k9 (by have:=hrep.length;omega),a6S (by simpa using hlt)]
   simpa[den]using hv
 ·refine d3e hP hp hk hs' hlv.rel (fun av rv hrb hnd hrows hcells=>?_) h0
  have hbs:∀b,b∈rv.flatMap r6→w.heap.size≤b∧b<w'.heap.size:=fun b hb=>by
   have h1:=hrb b hb;rcases hlv.rel.cls.lb b h1 with h|h
   ·cases h
   ·exact⟨h,hlv.rel.cls.lt_size h1⟩
  have hmono:∀b,((fun b=>b<w.heap.size→ok b) b∧b<w'.heap.size)∧b∉bs st'.H→(ok b∨(w.heap.size≤b∧b<w'.heap.size))∧b∉rv.flatMap r6:=fun b hb1=>by
   refine⟨?_,fun hc=>hb1.2 (hrb b hc)⟩;by_cases hlt:b<w.heap.size
   ·exact .inl (hb1.1.1 hlt)
   ·exact .inr ⟨by omega,hb1.1.2⟩
  exact⟨av,rv,rfl,hbs,hnd,hrows.mono hmono,hcells.mono hmono,hlv.fx.below⟩
theorem b4R{X:Cy}{ok:Nat→Prop}{w:World}{v:Value}{vl:List Value}{z n:Nat}{l:List D}{ty:TypeId}{args:List D}{xs:List Value}{fn:Func}(hn:X.nt=fn.ntmps)(hl:args.length+1≤fn.ntmps)
 (hown:w.ownsRow 0 ty z v n xs) (hrl:l5 ok w l xs) (hfl:B4 l=true) (hlen:l.length=n*z) (hnok:∀b,b∈r6 v→¬ok b) (hrep:l5 ok w args vl) (hok:∀b,ok b→b<w.heap.size) (h0:X.dfs=[]) (hg:fn.ntmps≤L3):
 Sim (fun b=>b<w.heap.size→ok b∨b∈r6 v) ⟨a4O 0 (.row 0::vs vl),[(0,.row v n xs z ty)],1,w,w.heap.size,[]⟩ ⟨a1Y 0 (.row 0 z::args),[(0,.row z n l ty)],1⟩∧
 Rel (cx X w (r6 v)) ⟨a4O 0 (.row 0::vs vl),[(0,.row v n xs z ty)],1,w,w.heap.size,[]⟩ { tmps:=((v::vl).toArray++Array.replicate (fn.ntmps-(v::vl).toArray.size) undef),defers:=[]} w:=by
 have hbs:bs [(0,Ent.row v n xs z ty)]=r6 v:=by simp[bs,bsE]
 have hoks:∀b,ok b→okS (fun b=>b<w.heap.size→ok b∨b∈r6 v) ⟨a4O 0 (.row 0::vs vl),[(0,.row v n xs z ty)],1,w,w.heap.size,[]⟩ b∧w.heap[b]?=w.heap[b]?:=fun b hb=>
  ⟨⟨⟨.inl (hok b hb),fun _=>.inl hb⟩,hok b hb,fun c hc e=>by simp only[hbs]at hc;exact hnok c hc (e▸hb)⟩,rfl⟩
 constructor
 ·refine⟨fun d x hx=>?_,fun k e he=>?_,rfl,fun j hj=>?_,fun j hj=>rfl⟩
  ·obtain⟨_,h2⟩:=a2D hx;simp only[a6l]at h2;right;cases d with
   |zero=>
    simp at h2;subst h2;refine⟨.row 0,rfl,?_⟩;simp only[j5];exact⟨trivial,by simp only;omega,fun _=>⟨_,rfl,rfl⟩⟩
   |succ d=>
    simp at h2;obtain⟨y,h3,h4⟩:=hrep.get h2;refine⟨.v y,a5H (L0 _) ?_,Rep.rel _ _ (Rep.mono hoks _ _ h4)⟩;simp[a9g,h3]
  ·simp only[m7]at he;cases hb:Nat.beq 0 k with
   |false=>rw[hb]at he;cases he
   |true=>
    rw[hb]at he;cases he;have:=z7 hb;subst this;exact⟨_,rfl,by exact⟨rfl,rfl,rfl,l5.mono hoks _ _ hrl,hfl,hlen⟩⟩
  ·simp only at hj;have hb:Nat.beq 0 j=false:=S9 (by omega);simp only[a4O,w8,ment,hb];exact a3Q
 ·refine⟨by simp[cx,hn,←hrep.length];omega,fun d s hs=>?_,h0.symm,?_,y6 _,by simp⟩
  ·obtain⟨_,h2⟩:=a2N (n:=0) hs;simp only[a6l]at h2;right;cases d with
   |zero=>
    simp at h2;subst h2;show N1 _ _ 0=some v;rw[N1,k9 (by decide),a6S (by simp)];simp
   |succ d=>
    simp only[List.getElem?_cons_succ,a9g]at h2;cases hv:vl[d]? with
    |none=>rw[hv]at h2;cases h2
    |some y=>
     rw[hv]at h2;cases h2;have hlt:=(P3.1 hv).1;rw[N1,k9 (by have:=hrep.length;omega),a6S (by simp;omega)];simpa[den]using hv
  ·refine⟨Fx.refl _ _,Fx.refl _ _,fun k e hm=>?_,by rw[hbs];exact a7R v,fun b hb=>?_,by simp,fun k e hm=>?_⟩
   ·simp at hm;obtain⟨rfl,rfl⟩:=hm;exact hown
   ·rw[hbs]at hb;exact .inl hb
   ·simp at hm;obtain⟨rfl,rfl⟩:=hm;exact Nat.zero_lt_one
def c0x(X:Cy):Nat→Code→Sy→(Exit→Sy→Prop)→(Sy→Prop)→Prop
 |0,_,st,_,KT=>KT st
 |n+1,.seq a b,st,K,KT=>S0 X a st fun e st'=>match e with
  |.normal=>c0x X n b st' K KT
  |e=>K e st'
 |_,_,_,_,_=>False
def b3u:Nat→Code→Code
 |0,c=>c
 |n+1,.seq _ b=>b3u n b
 |_,c=>c
section
variable {A : Nat → Prop}{X : Cy}{w0 : World}{bor : List Nat}{Q : Exit → Act → World → Prop}
theorem b6N(hA:AG A X.P w0 bor)(hP:POK X.P X.tt):∀(n:Nat) (c:Code) (st:St) (sy:Sy) (a:Act) (w:World) (K:Exit→Sy→Prop) (KT:Sy→Prop),c0x X n c sy K KT→Sim A st sy→Rel (cx X w0 bor) st a w→
 (∀e st' sy' a' w',plain e→K e sy'→Sim A st' sy'→Lv (cx X w0 bor) st.H w st' a' w'→Q e a' w')→
 (∀st' sy' a' w',KT sy'→Sim A st' sy'→Lv (cx X w0 bor) st.H w st' a' w'→(b3u n c).wp X.P Q a' w')→c.wp X.P Q a w
 |0,c,st,sy,a,w,K,KT,h,hs,hr,_,hT=>hT st sy a w h hs (Lv.refl hr)
 |n+1,c,st,sy,a,w,K,KT,h,hs,hr,hQ,hT=>by
  cases c with
  |seq x y=>
   refine wp_seq (a4m hA hP x st sy a w _ _ h hs hr fun e st1 sy1 a1 w1 hp hk hs1 hl=>?_);cases e with
   |normal=>exact b6N hA hP n y st1 sy1 a1 w1 K KT hk hs1 hl.rel (fun e st' sy' a' w' hp hk hs' hl'=>hQ e st' sy' a' w' hp hk hs' (Lv.trans hl hl')) fun st' sy' a' w' hk hs' hl'=>hT st' sy' a' w' hk hs' (Lv.trans hl hl')
   |exit id=>exact hQ _ _ _ _ _ hp hk hs1 hl
   |ret=>exact hQ _ _ _ _ _ hp hk hs1 hl
   |goto l=>exact hp.elim
   |panic c=>exact hp.elim
   |outgrown=>exact hp.elim
  |_=>exact h.elim
end
theorem a0s{P:Program}{ops:Array Oper}{Q:Exit→Act→World→Prop}{o:Oper}{rest:List Oper}{a:Act}{w w':World}{v:Value}(hg:o.guard=none)(h:(execOp a.eval o).run P w=.ok (.value v) w')(hn:wpList P ops Q rest (a.put o.dst v) w'):wpList P ops Q (o::rest) a w:=by
 have hw:Region.wanted o (yielded ops a.tmps)=true:=by simp[Region.wanted,hg]
 simp only[wpList,hw,D2];left;unfold Oper.wp;rw[h];exact hn
theorem a5T{a:Act}{d:Nat}{v:Value}(h:d<a.tmps.size):(a.put (some d) v).tmps[d]?=some v:=by simp[Act.put,h]
theorem S6{a:Act}{d e:Nat}{v:Value}(h:d≠e):(a.put (some d) v).tmps[e]?=a.tmps[e]?:=by simp[Act.put,h]
theorem a3p{a:Act}{d:Option Nat}{v:Value}:(a.put d v).tmps.size=a.tmps.size:=by cases d<;>simp[Act.put]
theorem a6c{a:Act}{d:Option Nat}{v:Value}:(a.put d v).defers=a.defers:=by cases d<;>simp[Act.put]
theorem a1b{a:Act}{d:Nat}{v:Value}(h:a.tmps[d]?=some v):a.eval (.tmp d)=v:=by simp[Act.eval,h]
theorem c6m{P:Program}{t e esz bytes:Nat}{i ie:TI}(hi:P6 P t i)(hd:i.d=.slice e esz bytes)(hie:P6 P e ie)(hiz:ie.n=esz){w:World}{g o m c:Nat}{cur:Array Value}(hg:w.heap[g]?=some (.cells cur e (0,0)))(hle:m=0∨o+m*esz≤cur.size)(ty:TypeId):
 ∃cur':Array Value,(Builtin.clear_ #[t] ty #[.slice (some ⟨g,o,none⟩) m c]).run P w=.ok (.tuple #[]) (w.setRow g cur')∧cur'.size=cur.size∧(m=0→cur'=cur)∧cur'.toList.take o=cur.toList.take o:=by
 obtain⟨hu,_⟩:=hi.slice hd;cases m with
 |zero=>
  refine⟨cur,?_,rfl,fun _=>rfl,rfl⟩;rw[setRow_self w g cur e (0,0) hg];simp[Builtin.clear_,A5 hu]
 |succ m=>
  obtain⟨zv,hz,hzr⟩:=hie.run_zero;have hzs:zv.cells.size=esz:=by rw[←a7s,hz,hie.zn,hiz]
  have hone:∀x,x∈(Builtin.zeroCells zv.cells (m+1)).toList→x.oneCell'=true:=by
   intro x hx;simp only[Builtin.zeroCells]at hx;simp at hx;obtain⟨j,hj,rfl⟩:=hx
   have hzp:0<zv.cells.size:=by
    rcases Nat.eq_zero_or_pos zv.cells.size with h|h
    ·rw[h]at hj;simp at hj
    ·exact h
   have hlt:=Nat.mod_lt j hzp;refine hie.zo _ ?_;rw[←hz];simp[hlt]
  have hlen:(Builtin.zeroCells zv.cells (m+1)).toList.length=(m+1)*esz:=by simp[Builtin.zeroCells,hzs]
  have hle':o+(m+1)*esz≤cur.size:=by rcases hle with h|h;cases h;exact h
  have hst:=run_storeCells_at (P:=P) g o e (Builtin.zeroCells zv.cells (m+1)).toList 0 cur w hg (by rw[hlen];omega) hone;refine⟨(List.take (o+0) cur.toList++(Builtin.zeroCells zv.cells (m+1)).toList++List.drop (o+0+(Builtin.zeroCells zv.cells (m+1)).toList.length) cur.toList).toArray,?_,?_,fun h=>by omega,?_⟩
  ·generalize (List.take (o+0) cur.toList++(Builtin.zeroCells zv.cells (m+1)).toList++List.drop (o+0+(Builtin.zeroCells zv.cells (m+1)).toList.length) cur.toList).toArray=C at*;simp[Builtin.clear_,A5 hu,hzr,hst]
  ·have:(Builtin.zeroCells zv.cells (m+1)).size=(m+1)*esz:=by rw[←hlen];simp
   simp[this];omega
  ·simp only[a8h,a3z];rw[b1F (by simp;omega),a9w,Nat.min_self]
section
variable {X : Cy}{Q : Exit → Act → World → Prop}{t e esz bytes : Nat}{i ie : TI}{a : Act}{w : World}{g n cap m : Nat}{cur : Array Value}
theorem c3w(hi:P6 X.P t i)(hd:i.d=.slice e esz bytes)(hm:m≤n)(hnc:n≤cap)(w:World):
 ∃o,(Instr.sliceAt t (.slice (some ⟨g,0,none⟩) n cap) (some (.int .i64 m)) none none).run X.P w=.ok (.slice (some ⟨g,o,none⟩) (n-m) (cap-m)) w∧(n-m=0∨o=m*esz):=by
 have hu:=(hi.slice hd).1
 have hsz:(sizeOf e).run X.P w=.ok esz w:=by
  obtain⟨_,inf,h1,h2,_⟩:=hi.slice hd;simp[sizeOf,typeInfo,h1,h2]
 by_cases hc:cap=m
 ·refine⟨0,?_,.inl (by omega)⟩;simp[Instr.sliceAt,Instr.slice,A5 hu,Instr.sliceBounds,run_sliceBound,hm,hsz,hc]
 ·refine⟨m*esz,?_,.inr rfl⟩;simp[Instr.sliceAt,Instr.slice,A5 hu,Instr.sliceBounds,run_sliceBound,hm,hsz,hc,O8]
theorem c7i(hi:P6 X.P t i)(hd:i.d=.slice e esz bytes)(hm:m≤cap)(w:World):
 (Instr.sliceAt t (.slice (some ⟨g,0,none⟩) n cap) none (some (.int .i64 m)) none).run X.P w=.ok (.slice (some ⟨g,0,none⟩) m cap) w:=by
 have hu:=(hi.slice hd).1
 have hsz:(sizeOf e).run X.P w=.ok esz w:=by
  obtain⟨_,inf,h1,h2,_⟩:=hi.slice hd;simp[sizeOf,typeInfo,h1,h2]
 by_cases hc:cap=0
 ·subst hc;have:m=0:=by omega
  subst this;simp[Instr.sliceAt,Instr.slice,A5 hu,Instr.sliceBounds,run_sliceBound,hsz]
 ·simp[Instr.sliceAt,Instr.slice,A5 hu,Instr.sliceBounds,run_sliceBound,hm,hsz,hc,O8]
theorem c7L(hT:a3N X.P X.tt)(hi:D4 X.tt t=some i)(hd:i.d=.slice e esz bytes)(hie:D4 X.tt e=some ie)(hiz:ie.n=esz)(hsz:42≤a.tmps.size)(h0:a.tmps[0]?=some (.slice (some ⟨g,0,none⟩) n cap))(h5:a.tmps[5]?=some (.int .i64 m))
 (hm:m≤n) (hnc:n≤cap) (hg:w.heap[g]?=some (.cells cur e (0,0))) (hcs:cur.size=cap*esz) {T1 T2 T3 T4 T5 T6 T7 T8:TypeId}{p1 p2 p3 p4 p5 p6 p7 p8:String}{f1 f2 f3 f4 f5 f6 f7 f8:Array Edge}{r1 r2:Nat}
 (hQ:∀(a':Act) (cur':Array Value),cur'.size=cur.size→cur'.toList.take (m*esz)=cur.toList.take (m*esz)→a'.defers=a.defers→a'.tmps[4]?=some (.slice (some ⟨g,0,none⟩) m cap)→Q .ret a' (w.setRow g cur')):
 (Code.seq (.region r1 #[{ dst:=some 36,op:=.move (.tmp 0),type:=T1,pos:=p1,after:=f1,guard:=none}, { dst:=some 37,op:=.move (.tmp 5),type:=T2,pos:=p2,after:=f2,guard:=none},
  { dst:=some 38,op:=.slice t (.tmp 36) (some (.tmp 37)) none none,type:=T3,pos:=p3,after:=f3,guard:=none}, { dst:=none,op:=.call { callee:=.builtin .clear,args:= #[.tmp 38],argTypes:= #[t]},type:=T4,pos:=p4,after:=f4,guard:=none}] false)
  (.seq (.region r2 #[{ dst:=some 39,op:=.move (.tmp 0),type:=T5,pos:=p5,after:=f5,guard:=none}, { dst:=some 40,op:=.move (.tmp 5),type:=T6,pos:=p6,after:=f6,guard:=none},
   { dst:=some 41,op:=.slice t (.tmp 39) none (some (.tmp 40)) none,type:=T7,pos:=p7,after:=f7,guard:=none}, { dst:=some 4,op:=.assign (.tmp 41),type:=T8,pos:=p8,after:=f8,guard:=none}] false) .ret)).wp X.P Q a w:=by
 have hti:=hT t i hi;have htie:=hT e ie hie;obtain⟨o,hlo,hor⟩:=c3w (X:=X) (g:=g) hti hd hm hnc w
 obtain⟨cur',hcl,hcsz,hc0,hct⟩:=c6m (P:=X.P) (c:=cap-m) hti hd htie hiz (o:=o) (m:=n-m) hg (by
  rcases hor with h|rfl
  ·exact .inl h
  ·right;rw[hcs,←R7];exact a1d _ (by omega)) T4
 have htake:cur'.toList.take (m*esz)=cur.toList.take (m*esz):=by
  rcases hor with h|rfl
  ·rw[hc0 h]
  ·exact hct
 refine wp_seq (a7e ?_);refine a0s (w':=w) (v:=.slice (some ⟨g,0,none⟩) n cap) rfl (by simp[execOp,a1b h0]) ?_;have b5:(a.put (some 36) (.slice (some ⟨g,0,none⟩) n cap)).tmps[5]?=some (.int .i64 m):=by rw[S6 (by decide)];exact h5
 refine a0s (w':=w) (v:=.int .i64 m) rfl (by simp only[execOp,a1b b5];rfl) ?_;generalize ha2:((a.put (some 36) (.slice (some ⟨g,0,none⟩) n cap)).put (some 37) (.int .i64 m))=a2;have c36:a2.tmps[36]?=some (.slice (some ⟨g,0,none⟩) n cap):=by rw[←ha2,S6 (by decide),a5T (by omega)]
 have c37:a2.tmps[37]?=some (.int .i64 m):=by rw[←ha2,a5T (by rw[a3p];omega)]
 have c0:a2.tmps[0]?=some (.slice (some ⟨g,0,none⟩) n cap):=by rw[←ha2,S6 (by decide),S6 (by decide)];exact h0
 have c5:a2.tmps[5]?=some (.int .i64 m):=by rw[←ha2,S6 (by decide),S6 (by decide)];exact h5
 have csz:a2.tmps.size=a.tmps.size:=by rw[←ha2,a3p,a3p]
 have cdf:a2.defers=a.defers:=by rw[←ha2,a6c,a6c]
 refine a0s (w':=w) (v:=.slice (some ⟨g,o,none⟩) (n-m) (cap-m)) rfl (by simp only[execOp,a1b c36,a1b c37,Option.map,y9,hlo];rfl) ?_;generalize ha3:a2.put (some 38) (.slice (some ⟨g,o,none⟩) (n-m) (cap-m))=a3;have d38:a3.tmps[38]?=some (.slice (some ⟨g,o,none⟩) (n-m) (cap-m)):=by rw[←ha3,a5T (by omega)]
 have d0:a3.tmps[0]?=some (.slice (some ⟨g,0,none⟩) n cap):=by rw[←ha3,S6 (by decide)];exact c0
 have d5:a3.tmps[5]?=some (.int .i64 m):=by rw[←ha3,S6 (by decide)];exact c5
 have dsz:a3.tmps.size=a.tmps.size:=by rw[←ha3,a3p,csz]
 have ddf:a3.defers=a.defers:=by rw[←ha3,a6c,cdf]
 refine a0s (v:=.tuple #[]) (w':=w.setRow g cur') rfl ?_ ?_
 ·obtain⟨cs,hr⟩:=Q3 (X:=cx X w []) (a:=a3) (o:= { dst:=none,op:=.call { callee:=.builtin .clear,args:= #[.tmp 38],argTypes:= #[t]},type:=T4,pos:=p4,after:=f4,guard:=none}) rfl (vals:= #[.slice (some ⟨g,o,none⟩) (n-m) (cap-m)]) (by simp[a1b d38]) w;rw[show(cx X w []).P=X.P from rfl]at hr;rw[hr];simp only[builtin,y9,hcl,I9,O7]
 have e0:∀v,(a3.put none v)=a3:=fun v=>rfl
 simp only[e0];show Code.wp _ _ _ _ _;refine wp_seq (a7e ?_);refine a0s (w':=w.setRow g cur') (v:=.slice (some ⟨g,0,none⟩) n cap) rfl (by simp[execOp,a1b d0]) ?_;have f5':(a3.put (some 39) (.slice (some ⟨g,0,none⟩) n cap)).tmps[5]?=some (.int .i64 m):=by rw[S6 (by decide)];exact d5
 refine a0s (w':=w.setRow g cur') (v:=.int .i64 m) rfl (by simp only[execOp,a1b f5'];rfl) ?_;generalize ha4:((a3.put (some 39) (.slice (some ⟨g,0,none⟩) n cap)).put (some 40) (.int .i64 m))=a4;have g39:a4.tmps[39]?=some (.slice (some ⟨g,0,none⟩) n cap):=by rw[←ha4,S6 (by decide),a5T (by omega)]
 have g40:a4.tmps[40]?=some (.int .i64 m):=by rw[←ha4,a5T (by rw[a3p];omega)]
 have gsz:a4.tmps.size=a.tmps.size:=by rw[←ha4,a3p,a3p,dsz]
 have gdf:a4.defers=a.defers:=by rw[←ha4,a6c,a6c,ddf]
 have hhi:=c7i (X:=X) (g:=g) (n:=n) hti hd (show m≤cap by omega) (w.setRow g cur');refine a0s (w':=w.setRow g cur') (v:=.slice (some ⟨g,0,none⟩) m cap) rfl (by simp only[execOp,a1b g39,a1b g40,Option.map,y9,hhi];rfl) ?_;generalize ha5:a4.put (some 41) (.slice (some ⟨g,0,none⟩) m cap)=a5;have k41:a5.tmps[41]?=some (.slice (some ⟨g,0,none⟩) m cap):=by rw[←ha5,a5T (by omega)]
 refine a0s (w':=w.setRow g cur') (v:=.slice (some ⟨g,0,none⟩) m cap) rfl (by simp[execOp,a1b k41]) ?_;show Code.wp _ _ _ _ _;refine wp_ret (hQ _ cur' hcsz htake ?_ ?_)
 ·rw[a6c,←ha5,a6c,gdf]
 ·rw[a5T (by rw[←ha5,a3p,gsz];omega)]
end
inductive b2C(t:TypeId):Code→Prop
 |mk {T1 T2 T3 T4 T5 T6 T7 T8:TypeId}{p1 p2 p3 p4 p5 p6 p7 p8:String}{f1 f2 f3 f4 f5 f6 f7 f8:Array Edge}{r1 r2:Nat}:b2C t (Code.seq (.region r1 #[{ dst:=some 36,op:=.move (.tmp 0),type:=T1,pos:=p1,after:=f1,guard:=none}, { dst:=some 37,op:=.move (.tmp 5),type:=T2,pos:=p2,after:=f2,guard:=none},
  { dst:=some 38,op:=.slice t (.tmp 36) (some (.tmp 37)) none none,type:=T3,pos:=p3,after:=f3,guard:=none}, { dst:=none,op:=.call { callee:=.builtin .clear,args:= #[.tmp 38],argTypes:= #[t]},type:=T4,pos:=p4,after:=f4,guard:=none}] false)
  (.seq (.region r2 #[{ dst:=some 39,op:=.move (.tmp 0),type:=T5,pos:=p5,after:=f5,guard:=none}, { dst:=some 40,op:=.move (.tmp 5),type:=T6,pos:=p6,after:=f6,guard:=none},
   { dst:=some 41,op:=.slice t (.tmp 39) none (some (.tmp 40)) none,type:=T7,pos:=p7,after:=f7,guard:=none}, { dst:=some 4,op:=.assign (.tmp 41),type:=T8,pos:=p8,after:=f8,guard:=none}] false) .ret))
structure d0Z(z:Nat)(l':List D)(n':Nat)(ty:TypeId)(sy:Sy):Prop where
 ex:∃l1 n,u0 sy.T 0=some (.row 0 z)∧u0 sy.T 5=some (.v (.int .i64 n'))∧m7 sy.H 0=some (.row z n l1 ty)∧n'≤n∧l'=l1.take (n'*z)∧0<n
theorem c9l{X:Cy}(hP:POK X.P X.tt){f:FuncId}{fn:Func}{c:Code}{z n n':Nat}{l l':List D}{ty t:TypeId}{args:List D}{i ie:TI}{bytes:Nat}
 (hf:X.P.funcs[f]?=some fn) (hb:fn.body=some c) (hn:X.nt=fn.ntmps) (hl:args.length+1≤fn.ntmps) (htl:b2C t (b3u 4 c)) (hi:D4 X.tt t=some i) (hd:i.d=.slice ty z bytes) (hie:D4 X.tt ty=some ie) (hiz:ie.n=z) (h42:fn.ntmps=42) (hres:fn.results= #[.tmp 4])
 (h:c0x X 4 c ⟨a1Y 0 (.row 0 z::args),[(0,.row z n l ty)],1⟩ (b6o X fn.results.toList z n' l' ty) (d0Z z l' n' ty)) (h0:X.dfs=[]:=by rfl) (hg:fn.ntmps≤L3:=by exact J6 rfl):b5E X.P f z n l ty args z n' l':=by
 intro ok w v vl hrow hnok hrep hok hgi;obtain⟨xs,hown,hrl,hfl,hlen⟩:=hrow;obtain⟨hsim,hrel⟩:=b4R (X:=X) hn hl hown hrl hfl hlen (fun b hb=>(hnok b hb).1) hrep hok h0 hg;have hA:=AG.lent hgi hnok;have hnok:=fun b hb=>(hnok b hb).1
 refine calls_of_wp hf hb (b6N (A:=fun b=>b<w.heap.size→ok b∨b∈r6 v) (w0:=w) (bor:=r6 v) hA hP 4 c _ _ _ w _ _ h hsim hrel (fun e st' sy' a' w' hp hk hs' hl'=>?_) fun st' sy' a' w' hk hs' hl'=>?_)
 ·refine b9A hP hp hk hs' hl'.rel (fun v' hrow hbl=>⟨v',rfl,hbl,?_,?_⟩) h0
  ·obtain⟨xs',g1,g2,g3,g4⟩:=hrow;refine⟨xs',g1,l5.mono (fun b hbk=>⟨⟨?_,hbk.2⟩,rfl⟩) _ _ g2,g3,g4⟩;by_cases hlt:b<w.heap.size
   ·rcases hbk.1.1 hlt with h|h
    ·exact .inl h
    ·exact .inr (.inl h)
   ·exact .inr (.inr ⟨by omega,hbk.1.2⟩)
  ·exact hl'.rel.cls.fx0
 ·obtain⟨l1,n2,k0,k5,kH,hm,rfl,hpos⟩:=hk.ex;generalize b3u 4 c=tc at htl⊢;cases htl;have hr:=hl'.rel;obtain⟨e',hf',hre⟩:=hs'.H _ _ kH;cases e' with
  |blk=>exact hre.elim
  |mp=>exact hre.elim
  |row v1 n1 xs1 z1 ty1=>
   obtain⟨rfl,rfl,rfl,hrp,hfl1,hlen1⟩:=hre;have hdv:den st'.H (.row 0)=v1:=by simp[den,o5,hf']
   have t0:a'.tmps[0]?=some v1:=by
    rcases hs'.T _ _ k0 with h|⟨s,h1,h2⟩
    ·cases h
    ·simp only[j5]at h2;obtain⟨rfl,_⟩:=h2;rcases hr.T _ _ h1 with h|h
     ·cases h
     ·rw[N1,k9 (by decide)]at h;rw[h,hdv]
   have t5:a'.tmps[5]?=some (.int .i64 n'):=by
    rcases hs'.T _ _ k5 with h|⟨s,h1,h2⟩
    ·cases h
    ·simp only[j5]at h2;obtain⟨rfl,_⟩:=h2;rcases hr.T _ _ h1 with h|h
     ·cases h
     ·rw[N1,k9 (by decide)]at h;rw[h];rfl
   have hown1:=hr.cls.row hf';obtain⟨hx1,hx2⟩:=hown1;rcases hx2 with⟨_,h0⟩|⟨g,cap,cur,rfl,_,hg,hnc,hcm,hcs,htk⟩
   ·omega
   have hgb:g∈bs st'.H:=A3.2 ⟨0,_,o7 hf',by simp[bsE,r6]⟩;have hgl:=hr.cls.lb g hgb;refine c7L hP.tt hi hd hie hiz (by rw[hr.size.1];show 42≤X.nt;omega) t0 t5 hm hnc hg hcs fun a'' cur' hcz htk' hdf h4=>?_
   show bodyPost _ _ _ .ret _ _
   have hxs:cur'.toList.take (n'*z)=xs1.take (n'*z):=by
    rw[htk',←htk,a9w,a1Q (a1d _ hm)]
   refine⟨by rw[hdf];exact hr.dfs.trans h0,.slice (some ⟨g,0,none⟩) n' cap,?_,_,rfl,?_,?_,?_⟩
   ·rw[show results fn a''.tmps=_ from by unfold results;rw[hres]];simp[h4]
   ·intro b hb;simp[r6]at hb;subst hb;exact hgl
   ·refine⟨xs1.take (n'*z),⟨?_,.inr ⟨g,cap,cur',rfl,L0 _,setRow_heap _ _ _ _ _ _ hg,by omega,hcm,by rw[hcz,hcs],hxs⟩⟩,?_,a7g hfl1 (fun d hd=>a4M hd),?_⟩
    ·rw[Z5,hx1,a1Q (a1d _ hm)]
    ·refine l5.mono (fun b hb=>?_) _ _ (l5.take hrp (n'*z));have hb2:=a5h hr.cls b hb;have hbg:b≠g:=fun e=>hb.2.2 g hgb e.symm
     refine⟨⟨?_,by simpa[r6]using hbg⟩,by rw[a5O _ _ _ _ hbg];exact hb2.2⟩
     by_cases hlt:b<w.heap.size
     ·rcases hb.1.2 hlt with h|h
      ·exact .inl h
      ·exact .inr (.inl h)
     ·exact .inr (.inr ⟨by omega,by rw[setRow_size];exact hb2.1.2.1⟩)
    ·rw[Z5,hlen1,a1Q (a1d _ hm)]
   ·have f0:=hr.cls.fx0;refine⟨f0.os,f0.tape,f0.output,by rw[setRow_size];exact f0.size,fun i hi hn=>?_⟩
    rw[a5O _ _ _ _ (fun e=>by
     subst e;rcases hgl with h|h
     ·exact hn _ h rfl
     ·exact absurd hi (Nat.not_lt.2 h))]
    exact f0.block i hi hn
theorem d3L{α:Type}{c:α→List D}{z:Nat}{l:List α}{i:Int}{ty:TypeId}{T:List (Nat×D)}{H:Hy}{nk:Nat}(hc:∀x,(c x).length=z)(h:0≤i∧i.toNat≤l.length∧0<l.length)
 (h0:u0 T 0=some (.row 0 z):=by rfl) (h5:u0 T 5=some (DI i):=by rfl) (hH:m7 H 0=some (.row z l.length (l.flatMap c) ty):=by rfl):d0Z z ((l.take i.toNat).flatMap c) (l.take i.toNat).length ty ⟨T,H,nk⟩:=by
 have e:(l.take i.toNat).length=i.toNat:=by simp;omega
 refine⟨l.flatMap c,l.length,h0,?_,hH,by omega,by rw[e,a9I hc],h.2.2⟩;rw[h5,e];show some (D.v (.int .i64 i))=some (D.v (.int .i64 (i.toNat:Int)));rw[b2K h.1]
def b8J(o:Oper):Bool:=match o.op with|.defer _=>false|_=>true
def b9G:List Oper→Bool
 |[]=>true
 |o::l=>match b8J o with|true=>b9G l|false=>false
def b6K(fz:List Nat)(o:Oper):Bool:=match o.dst with|none=>true|some d=>match O2 d fz with|true=>false|false=>true
def b9k(fz:List Nat):List Oper→Bool
 |[]=>true
 |o::l=>match b6K fz o with|true=>b9k fz l|false=>false
def P8(fz:List Nat):Code→Bool
 |.region _ ops _=>match b9G ops.toList with|true=>b9k fz ops.toList|false=>false
 |.seq a b=>match P8 fz a with|true=>P8 fz b|false=>false
 |.cond _ a b=>match P8 fz a with|true=>P8 fz b|false=>false
 |.block _ c=>P8 fz c
 |.loop c=>P8 fz c
 |.skip=>true
 |.label _=>true
 |.exit _=>true
 |.ret=>true
 |_=>false
theorem c2Z{l:List Oper}(h:b9G l=true):∀o,o∈l→b8J o=true:=by
 induction l with
 |nil=>simp
 |cons x l ih=>
  simp only[b9G]at h;split at h
  ·rename_i hx;intro o ho;rcases u9.1 ho with rfl|ho
   ·exact hx
   ·exact ih h o ho
  ·cases h
theorem b8H{P:Program}{l n:Nat}{a:Act}{w:World}{o:Oper}{K:Act→World→Prop}{Q Q':Exit→Act→World→Prop}(h:o.wpIn (Fence.wide.inRound l) n P a w K Q)(hq:¬LetsOut Q)(hp:∀c a w,¬Q (.panic c) a w):o.wpIn (Fence.wide.inRound l) n P a w K Q':=by
 unfold Oper.wpIn at*;refine⟨h.1,?_⟩;have h:=h.2;generalize (o.semAt (Fence.wide.inRound l).round a.eval).run P w=r at*;cases r with
 |ok x w'=>
  cases x with
  |value v=>exact h
  |skip=>exact h
  |defer d=>exact h
  |enter f args=>
   refine⟨h.1,h.2.mono fun e w'' he=>?_⟩;cases e with
   |returned v=>exact he
   |panicked c=>exact absurd he (hp _ _ _)
   |outgrown=>exact absurd he hq
  |row row args=>exact h
  |round l f tmps assign body=>
   refine⟨h.1,h.2.mono fun e w'' he=>?_⟩;cases e with
   |returned v=>exact he
   |panicked c=>exact absurd he (hp _ _ _)
   |outgrown=>exact absurd he hq
  |_=>exact h.elim
 |halt hl w'=>
  cases hl with
  |panic v=>exact absurd h (hp _ _ _)
  |_=>exact h.elim
theorem c3a{fz:List Nat}{l:List Oper}(h:b9k fz l=true):∀o,o∈l→b6K fz o=true:=by
 induction l with
 |nil=>simp
 |cons x l ih=>
  simp only[b9k]at h;split at h
  ·rename_i hx;intro o ho;rcases u9.1 ho with rfl|ho
   ·exact hx
   ·exact ih h o ho
  ·cases h
def kept(fz:List Nat)(a a':Act):Prop:=∀d,d∈fz→a'.tmps[d]?=a.tmps[d]?
theorem a5s{fz:List Nat}{a0 a:Act}{o:Oper}{v:Value}(hd:b6K fz o=true)(h:kept fz a0 a):kept fz a0 (a.put o.dst v):=by
 intro d hm;rw[←h d hm];unfold b6K at hd;cases ho:o.dst with
 |none=>simp[Act.put]
 |some e=>
  rw[ho]at hd;simp only at hd;split at hd
  ·cases hd
  ·rename_i hn;have hne:e≠d:=fun e'=>by subst e';rw[E1.2 hm]at hn;cases hn
   simp[Act.put,hne]
section
variable {P : Program}{l n : Nat}{a a0 : Act}{w : World}{Q : Exit → Act → World → Prop}{fz : List Nat}
theorem c5d{o:Oper}{K:Act→World→Prop}(hn:b8J o=true)(hd:b6K fz o=true)(hk:kept fz a0 a)(h:o.wp P a w K Q):o.wpIn (Fence.wide.inRound l) n P a w (fun a' w'=>kept fz a0 a'∧K a' w') Q:=by
 unfold Oper.wp at h;unfold Oper.wpIn;refine⟨fun _ _=>trivial,?_⟩;have hne:∀c,o.op≠ .defer c:=fun c e=>by simp[b8J,e]at hn
 rw[Fence.inRound_round,Oper.semAt_some l a.eval o hne];generalize (execOp a.eval o).run P w=r at*;cases r with
 |ok x w'=>
  cases x with
  |value v=>exact⟨a5s hd hk,h⟩
  |skip=>exact⟨a5s hd hk,h⟩
  |defer d=>exact⟨a5s (a:= { a with defers:=d::a.defers}) hd hk,h⟩
  |enter f args=>
   refine⟨fun h=>by simp[Fence.wide]at h,((callsIn_wide.2 h).inRound l).mono fun e w'' he=>?_⟩;cases e with
   |returned v=>exact⟨a5s hd hk,he⟩
   |panicked c=>exact he
   |outgrown=>exact he
  |row row args=>
   refine⟨fun h=>by simp[Fence.wide]at h,fun c cs _=>?_⟩;obtain⟨v,w',r,s⟩:=h c cs;exact⟨v,w',⟨a5s hd hk,r⟩,stepsIn_wide.2 s⟩
  |_=>exact h.elim
 |halt hl w'=>cases hl<;>exact h
theorem c4t{ops:Array Oper}(hq:¬LetsOut Q)(hp:∀c a w,¬Q (.panic c) a w):∀(rest:List Oper) (a:Act) (w:World),(∀o,o∈rest→b8J o=true)→(∀o,o∈rest→b6K fz o=true)→kept fz a0 a→wpList P ops Q rest a w→wpListIn (Fence.wide.inRound l) n P ops (fun e a' w'=>kept fz a0 a'∧Q e a' w') rest a w
 |[],a,w,_,_,hk,h=>⟨hk,h⟩
 |o::rest,a,w,hn,hd,hk,h=>by
  have ih:=fun a w hk=>c4t (ops:=ops) hq hp rest a w (fun o ho=>hn o (F6 _ ho)) (fun o ho=>hd o (F6 _ ho)) hk
  simp only[wpList]at h;simp only[wpListIn];split at h
  ·rename_i hw;rw[k9 hw];rcases h with h|⟨_,h⟩
   ·exact b8H (Oper.wpIn_mono (fun a w h=>ih a w h.1 h.2) (c5d (hn o C7) (hd o C7) hk h)) hq hp
   ·exact absurd h hq
  ·rename_i hw;rw[j6 hw];exact⟨fun _ _=>trivial,ih _ _ (a5s (hd o C7) hk) h⟩
theorem b8Y{ops:Array Oper}{md:Region.Mode}(hq:¬LetsOut Q)(hp:∀c a w,¬Q (.panic c) a w)(hn:∀o,o∈ops.toList→b8J o=true)(hd:∀o,o∈ops.toList→b6K fz o=true):∀(fuel:Nat) (listed:Array Bool) (a:Act) (w:World),kept fz a0 a→wpAny P md ops Q fuel listed a w→wpAnyIn (Fence.wide.inRound l) n P md ops (fun e a' w'=>kept fz a0 a'∧Q e a' w') fuel listed a w
 |0,listed,a,w,hk,h=>⟨h.1,hk,h.2⟩
 |fuel+1,listed,a,w,hk,h=>by
  refine⟨fun hr=>⟨hk,h.1 hr⟩,fun i hi=>?_⟩;have h2:=h.2 i hi;unfold wpOp at h2;unfold wpOpIn;cases ho:ops[i]? with
  |none=>rw[ho]at h2;exact b8Y hq hp hn hd fuel _ a w hk h2
  |some o=>
   rw[ho]at h2;have hm:=b0f (show ops.toList[i]?=some o by simpa using ho)
   simp only at h2⊢;split at h2
   ·rename_i hw;rw[k9 hw];rcases h2 with h2|⟨_,h2⟩
    ·exact b8H (Oper.wpIn_mono (fun a w h=>b8Y hq hp hn hd fuel _ a w h.1 h.2) (c5d (hn o hm) (hd o hm) hk h2)) hq hp
    ·exact absurd h2 hq
   ·rename_i hw;rw[j6 hw];exact⟨fun _ _=>trivial,b8Y hq hp hn hd fuel _ _ _ (a5s (hd o hm) hk) h2⟩
end
section
variable {A : Nat → Prop}{X : Cy}{w0 : World}{bor : List Nat}
theorem b6p(l n:Nat)(fz:List Nat)(hA:AG A X.P w0 bor)(hP:POK X.P X.tt)(c:Code)(hc:P8 fz c=true):∀(st:St) (sy:Sy) (a0 a:Act) (w:World) (K:Exit→Sy→Prop) (Q:Exit→Act→World→Prop),kept fz a0 a→S0 X c sy K→Sim A st sy→Rel (cx X w0 bor) st a w→
 (∀e st' sy' a' w',plain e→K e sy'→Sim A st' sy'→Lv (cx X w0 bor) st.H w st' a' w'→kept fz a0 a'→Q e a' w')→c.wpIn (Fence.wide.inRound l) n X.P Q a w:=by
 induction c with
 |skip=>exact fun st sy a0 a w K Q hk h hs hr hQ=>wpIn_skip (hQ .normal st sy a w trivial h hs (Lv.refl hr) hk)
 |label l=>exact fun st sy a0 a w K Q hk h hs hr hQ=>wpIn_label (hQ .normal st sy a w trivial h hs (Lv.refl hr) hk)
 |exit id=>exact fun st sy a0 a w K Q hk h hs hr hQ=>wpIn_exit (hQ (.exit id) st sy a w trivial h hs (Lv.refl hr) hk)
 |ret=>exact fun st sy a0 a w K Q hk h hs hr hQ=>wpIn_ret (hQ .ret st sy a w trivial h hs (Lv.refl hr) hk)
 |region id ops draw=>
  intro st sy a0 a w K Q hkp h hs hr hQ;simp only[P8]at hc;split at hc
  ·rename_i hn0;have hn:=c2Z hn0;have hd:=c3a hc
   have hno:¬LetsOut fun e a w=>e=Exit.normal∧(kept fz a0 a→Q e a w):=by
    rintro⟨a,w,h,_⟩;cases h
   have hpn:∀c a w,¬((Exit.panic c)=Exit.normal∧(kept fz a0 a→Q (.panic c) a w)):=by
    rintro c a w ⟨h,_⟩;cases h
   have hmono:∀e a w,(kept fz a0 a∧(e=Exit.normal∧(kept fz a0 a→Q e a w)))→Q e a w:=fun _ _ _ h=>h.2.2 h.1
   cases draw with
   |false=>exact wpIn_mono (wpIn_region_list (c4t hno hpn _ _ _ hn hd hkp (b2j hA hP ops.toList _ _ a w _ h hs hr fun st' sy' a' w' hk hs' hl=>⟨rfl,hQ .normal st' sy' a' w' trivial hk hs' hl⟩))) hmono
   |true=>
    simp only[S0]at h;split at h
    ·obtain⟨T,H,nk⟩:=sy;obtain⟨T',H',nk',ws,lo,iv⟩:=st;have hx:=a2G (w0:=w0) (bor:=bor) hA hP _ h.2 (b5W (ops:=ops.toList) hs);exact wpIn_mono (wpIn_region_any hP.mix (b8Y hno hpn hn hd _ _ _ _ hkp (a4F (X:=cx X w0 bor) hP hr h.1 hx fun st' a' w' ⟨sy',hk,hs'⟩ hl=>⟨rfl,hQ .normal st' sy' a' w' trivial hk hs' hl⟩))) hmono
    ·exact h.elim
  ·cases hc
 |seq x y ihx ihy=>
  intro st sy a0 a w K Q hkp h hs hr hQ;simp only[P8]at hc;split at hc
  ·rename_i hcx;refine wpIn_seq (ihx hcx st sy a0 a w _ _ hkp h hs hr fun e st1 sy1 a1 w1 hp hk hs1 hl hkp1=>?_);cases e with
   |normal=>exact ihy hc st1 sy1 a0 a1 w1 K Q hkp1 hk hs1 hl.rel fun e st2 sy2 a2 w2 hp hk2 hs2 hl2=>hQ e st2 sy2 a2 w2 hp hk2 hs2 (Lv.trans hl hl2)
   |exit id=>exact hQ _ _ _ _ _ hp hk hs1 hl hkp1
   |ret=>exact hQ _ _ _ _ _ hp hk hs1 hl hkp1
   |goto l=>exact hp.elim
   |panic c=>exact hp.elim
   |outgrown=>exact hp.elim
  ·cases hc
 |cond c x y ihx ihy=>
  intro st sy a0 a w K Q hkp h hs hr hQ;simp only[P8]at hc;split at hc
  ·rename_i hcx;simp only[S0]at h;split at h
   ·rename_i b hcd;obtain⟨s,h1,h2,_⟩:=o0 hs hcd;have:=h2.sc;subst this;have hb:a.eval c=.bool b:=by simpa[den]using (hr.ev c _ h1).2
    cases b with
    |true=>exact wpIn_cond_true hb (ihx hcx st sy a0 a w K Q hkp h hs hr hQ)
    |false=>exact wpIn_cond_false hb (ihy hc st sy a0 a w K Q hkp h hs hr hQ)
   ·exact h.elim
  ·cases hc
 |block id c ih=>
  intro st sy a0 a w K Q hkp h hs hr hQ;refine wpIn_block (ih hc st sy a0 a w _ _ hkp h hs hr fun e st1 sy1 a1 w1 hp hk hs1 hl hkp1=>?_);cases e with
  |normal=>exact hQ _ _ _ _ _ hp hk hs1 hl hkp1
  |exit j=>
   simp only[Exit.inBlock];simp only at hk;split at hk
   ·rename_i hb;rw[k9 (z7 hb)];exact hQ .normal _ _ _ _ trivial hk hs1 hl hkp1
   ·rename_i hb;rw[j6 (a3y hb)];exact hQ _ _ _ _ _ hp hk hs1 hl hkp1
  |ret=>exact hQ _ _ _ _ _ hp hk hs1 hl hkp1
  |goto l=>exact hp.elim
  |panic c=>exact hp.elim
  |outgrown=>exact hp.elim
 |loop c ih=>
  intro st sy a0 a w K Q hkp h hs hr hQ;have h:B1 (S0 X c) sy K:=h;obtain⟨α,f,inv,μ,⟨x0,hsub,hinv⟩,hround⟩:=h.ex;obtain⟨st0,hs0,hr0,hb0⟩:=hsub.rel hA hs hr;refine wpIn_loop_ghost (fun n a1 w1=>∃x,μ x=n∧inv x∧kept fz a0 a1∧∃st1,Sim A st1 (f x)∧Lv (cx X w0 bor) st.H w st1 a1 w1) (μ x0) ⟨x0,rfl,hinv,hkp,st0,hs0,hr0,Fx.refl _ _,fun b hb=>.inl (hb0 b hb)⟩ ?_;rintro n a1 w1 ⟨x,rfl,hinv1,hkp1,st1,hs1,hlv⟩;refine ih hc st1 (f x) a0 a1 w1 _ _ hkp1 (hround x hinv1) hs1 hlv.rel fun e st2 sy2 a2 w2 hp hk hs2 hl hkp2=>?_
  have hl2:=Lv.trans hlv hl;cases e with
  |normal=>
   obtain⟨y,hsb,hi,hlt⟩:=hk;obtain⟨st3,hs3,hr3,hb3⟩:=hsb.rel hA hs2 hl2.rel;exact⟨μ y,hlt,y,rfl,hi,hkp2,st3,hs3,hr3,hl2.fx,fun b hb=>hl2.bs b (hb3 b hb)⟩
  |exit j=>exact hQ _ _ _ _ _ hp hk hs2 hl2 hkp2
  |ret=>exact hQ _ _ _ _ _ hp hk hs2 hl2 hkp2
  |goto l=>exact hp.elim
  |panic c=>exact hp.elim
  |outgrown=>exact hp.elim
 |_=>exact absurd hc (by simp[P8])
end
mutual
theorem Rep.keep{ok ok':Nat→Prop}{w w':World}(hm:∀b,ok b→ok' b∧(∀p c,w.cell? ⟨b,p,none⟩=some c→w'.cell? ⟨b,p,none⟩=some c)∧∀es c,w.heap[b]?=some (Obj.map es c)→w'.heap[b]?=some (Obj.map es c)):∀(d:D) (y:Value),Rep ok w d y→Rep ok' w' d y
 |.v x,y,h=>h
 |.agg l,y,h=>by
  simp only[Rep]at h⊢;obtain⟨a,h1,h2,h3⟩:=h;exact⟨a,h1,l5.keep hm l _ h2,h3⟩
 |.lst z n l,y,h=>by
  simp only[Rep]at h⊢;obtain⟨a,c,h1,h2,h3,h4,h5,h6⟩:=h;refine⟨a,c,h1,h2,h3,h4,h5,?_⟩;rcases h6 with h6|⟨b,o,xs,e1,e2,e3,e4⟩
  ·exact .inl h6
  ·refine .inr ⟨b,o,xs,e1,(hm b e2).1,l5.keep hm l _ e3,fun j hj=>?_⟩;have hlt:j<xs.length:=by rw[←l5.length e3,h4];exact hj
   have hx:=e4 j hj;rw[J7 hlt]at hx⊢;exact(hm b e2).2.1 _ _ hx
 |.ptr l o,y,h=>by
  simp only[Rep]at h⊢;obtain⟨b,p,xs,e1,e2,e5,e3,e4⟩:=h;refine⟨b,p,xs,e1,(hm b e2).1,e5,l5.keep hm l _ e3,fun j hj=>?_⟩;have hlt:j<xs.length:=by rw[←l5.length e3];exact hj
  have hx:=e4 j hj;rw[J7 hlt]at hx⊢;exact(hm b e2).2.1 _ _ hx
 |.fn f a b,y,h=>by
  simp only[Rep]at h⊢;obtain⟨p,q,h1,h2,h3⟩:=h;exact⟨p,q,h1,l5.keep hm a _ h2,l5.keep hm b _ h3⟩
 |.tup l,y,h=>by
  simp only[Rep]at h⊢;obtain⟨a,h1,h2⟩:=h;exact⟨a,h1,l5.keep hm l _ h2⟩
 |.mp l,y,h=>by
  simp only[Rep]at h⊢;obtain⟨r,es,c,h1,h2,h3,h4⟩:=h;exact⟨r,es,c,h1,(hm r h2).1,(hm r h2).2.2 _ _ h3,h4⟩
 |.own _ _,_,h=>by simp[Rep]at h
 |.ownx _ _,_,h=>by simp[Rep]at h
 |.row _ _,_,h=>by simp[Rep]at h
 |.elr _ _ _ _,_,h=>by simp[Rep]at h
 |.osl _ _ _ _ _,_,h=>by simp[Rep]at h
 |.und,_,h=>by simp[Rep]at h
 |.bad,_,h=>by simp[Rep]at h
theorem l5.keep{ok ok':Nat→Prop}{w w':World}(hm:∀b,ok b→ok' b∧(∀p c,w.cell? ⟨b,p,none⟩=some c→w'.cell? ⟨b,p,none⟩=some c)∧∀es c,w.heap[b]?=some (Obj.map es c)→w'.heap[b]?=some (Obj.map es c)):∀(l:List D) (r:List Value),l5 ok w l r→l5 ok' w' l r
 |[],[],_=>trivial
 |d::l,y::r,h=>by
  simp only[l5]at h⊢;exact⟨Rep.keep hm d y h.1,l5.keep hm l r h.2⟩
 |[],_::_,h=>by simp[l5]at h
 |_::_,[],h=>by simp[l5]at h
end
mutual
theorem j5.keep{ok ok':Nat→Prop}{w w':World}{R R':Bool→Nat→Prop}(hm:∀b,ok b→ok' b∧(∀p c,w.cell? ⟨b,p,none⟩=some c→w'.cell? ⟨b,p,none⟩=some c)∧∀es c,w.heap[b]?=some (Obj.map es c)→w'.heap[b]?=some (Obj.map es c))(hR:∀q k,R q k→R' q k):∀(d:D) (s:SV),j5 ok w R d s→j5 ok' w' R' d s
 |.v x,y,h=>h
 |.agg l,y,h=>by
  simp only[j5]at h⊢;obtain⟨a,h1,h2,h3⟩:=h;exact⟨a,h1,j9.keep hm hR l _ h2,h3⟩
 |.lst z n l,y,h=>by
  simp only[j5]at h⊢;obtain⟨a,h1,h2⟩:=h;exact⟨a,h1,Rep.keep hm _ _ h2⟩
 |.ptr l o,y,h=>by
  simp only[j5]at h⊢;obtain⟨a,h1,h2⟩:=h;exact⟨a,h1,Rep.keep hm _ _ h2⟩
 |.mp l,y,h=>by
  simp only[j5]at h⊢;obtain⟨a,h1,h2⟩:=h;exact⟨a,h1,Rep.keep hm _ _ h2⟩
 |.own k o,y,h=>by simp only[j5]at h⊢;exact⟨h.1,hR _ k h.2⟩
 |.ownx k o,y,h=>by simp only[j5]at h⊢;exact⟨h.1,hR _ k h.2⟩
 |.row k z,y,h=>by simp only[j5]at h⊢;exact⟨h.1,hR _ k h.2⟩
 |.elr k z i o,y,h=>by simp only[j5]at h⊢;exact⟨h.1,hR _ k h.2⟩
 |.osl k o z n c,y,h=>by simp only[j5]at h⊢;exact⟨h.1,hR _ k h.2⟩
 |.tup l,y,h=>by
  simp only[j5]at h⊢;rcases h with⟨cs,h1,h2⟩|⟨a,h1,h2⟩
  ·exact .inl ⟨cs,h1,j9.keep hm hR l _ h2⟩
  ·exact .inr ⟨a,h1,j9.keep hm hR l _ h2⟩
 |.fn f a b,y,h=>by
  simp only[j5]at h⊢;rcases h with⟨p,q,h1,h2,h3⟩|⟨p,q,h1,h2,h3⟩
  ·exact .inl ⟨p,q,h1,j9.keep hm hR a _ h2,j9.keep hm hR b _ h3⟩
  ·exact .inr ⟨p,q,h1,j9.keep hm hR a _ h2,j9.keep hm hR b _ h3⟩
 |.und,_,h=>h
 |.bad,_,h=>h
theorem j9.keep{ok ok':Nat→Prop}{w w':World}{R R':Bool→Nat→Prop}(hm:∀b,ok b→ok' b∧(∀p c,w.cell? ⟨b,p,none⟩=some c→w'.cell? ⟨b,p,none⟩=some c)∧∀es c,w.heap[b]?=some (Obj.map es c)→w'.heap[b]?=some (Obj.map es c))(hR:∀q k,R q k→R' q k):∀(l:List D) (r:List SV),j9 ok w R l r→j9 ok' w' R' l r
 |[],[],_=>trivial
 |d::l,y::r,h=>by
  simp only[j9]at h⊢;exact⟨j5.keep hm hR d y h.1,j9.keep hm hR l r h.2⟩
 |[],_::_,h=>by simp[j9]at h
 |_::_,[],h=>by simp[j9]at h
end
def c2r:Obj→Bool
 |.cells _ _ _=>false
 |.map _ _=>false
 |_=>true
theorem a9h{H:Hp}{w:World}{e:Ent}{b:Nat}(h:a5V 0 H w e)(hb:b∈bsE e):∃o,w.heap[b]?=some o∧c2r o=false:=by
 cases e with
 |blk b' cs ty=>
  simp only[bsE,a1V]at hb;subst hb;obtain⟨xs,_,h⟩:=h;exact⟨_,h,rfl⟩
 |mp b' es ty=>
  simp only[bsE,a1V]at hb;subst hb;obtain⟨_,_,h,_⟩:=h;exact⟨_,h,rfl⟩
 |row v n xs z ty=>
  obtain⟨_,h⟩:=(show w.ownsRow 0 ty z v n xs from h);rcases h with⟨rfl,_⟩|⟨g,cap,cur,rfl,_,hg,_⟩
  ·simp[bsE,r6]at hb
  ·simp[bsE,r6]at hb;subst hb;exact⟨_,hg,rfl⟩
section
variable {A : Nat → Prop}{X : Cy}{w0 : World}{bor : List Nat}{st : St}{sy : Sy}{a : Act}{W W' : World}
theorem turn{row:Option Nat}(hs:Sim A st sy)(hr:Rel (cx X w0 bor) st a W)(hg:W.grownBy W' row)(hrow:∀r,row=some r→w0.heap.size≤r∧∃o:Obj,W.heap[r]?=some o∧c2r o=true):Sim A (now st W') sy∧Rel (cx X w0 bor) (now st W') a W':=by
 have hs0:=hs.now hr.cls;have hr0:=hr.now
 have hcell:∀b p c,W.cell? ⟨b,p,none⟩=some c→W'.cell? ⟨b,p,none⟩=some c:=by
  intro b p c h;by_cases hb:b<W.heap.size
  ·by_cases hrb:row=some b
   ·obtain⟨_,o,ho,hc⟩:=hrow b hrb;simp only[World.cell?,ho]at h;cases o<;>simp_all[c2r]
   ·simp only[World.cell?,hg.block b hb (fun e=>hrb e.symm)]at h⊢;exact h
  ·simp[World.cell?,b3T (Nat.le_of_not_lt hb)]at h
 have hmap:∀(b:Nat) es c,W.heap[b]?=some (Obj.map es c)→W'.heap[b]?=some (Obj.map es c):=by
  intro b es c h;rw[hg.block b (Z8.1 h).1 fun hrb=>?_]
  ·exact h
  ·obtain⟨_,o,ho,hc⟩:=hrow b hrb.symm;rw[h]at ho;cases ho;simp[c2r]at hc
 have hok:∀b,okS A (now st W) b→okS A (now st W') b∧(∀p c,W.cell? ⟨b,p,none⟩=some c→W'.cell? ⟨b,p,none⟩=some c)∧∀es c,W.heap[b]?=some (Obj.map es c)→W'.heap[b]?=some (Obj.map es c):=fun b hb=>
  ⟨⟨⟨.inl (C5 hb.2.1 hg.size),hb.1.2⟩,C5 hb.2.1 hg.size,hb.2.2⟩,hcell b,hmap b⟩
 constructor
 ·refine⟨fun d x hx=>?_,fun k e he=>?_,hs0.nk,hs0.fT,hs0.fH⟩
  ·rcases hs0.T d x hx with h|⟨s,h1,h2⟩
   ·exact .inl h
   ·exact .inr ⟨s,h1,j5.keep hok (fun _ _ h=>h) _ _ h2⟩
  ·obtain⟨e',h1,h2⟩:=hs0.H k e he;refine⟨e',h1,?_⟩;cases e<;>cases e'<;>simp only[a3H]at h2⊢
   ·exact⟨h2.1,j9.keep hok (fun _ _ h=>h) _ _ h2.2⟩
   ·exact⟨h2.1,h2.2.1,h2.2.2.1,l5.keep hok _ _ h2.2.2.2.1,h2.2.2.2.2⟩
   ·exact h2
 ·have hc:=hr0.cls
  have hbs:∀k e,(k,e)∈st.H→∀b,b∈bsE e→W'.heap[b]?=W.heap[b]?:=by
   intro k e he b hb;obtain⟨q,hcl,hctl⟩:=a9h (hc.own k e he) hb;refine hg.block b (by rw[Z8]at hcl;exact hcl.1) fun hrb=>?_
   obtain⟨_,o,ho,hno⟩:=hrow b hrb.symm;rw[hcl]at ho;cases ho;rw[hctl]at hno;cases hno
  refine⟨hr0.size,hr0.T,hr0.dfs,⟨Fx.refl _ _,?_,fun k e he=>Y5 (hc.own k e he) (hbs k e he),hc.nd,hc.lb,hc.keys,hc.lt⟩,y6 _,by simp[now]⟩;have f0:=hc.fx0;refine⟨hg.os.trans f0.os,hg.tape.trans f0.tape,hg.output.trans f0.output,z6 f0.size hg.size,fun i hi hn=>?_⟩;rw[hg.block i (C5 hi f0.size) fun e=>by have:=(hrow i e.symm).1;exact absurd hi (Nat.not_lt.2 this)];exact f0.block i hi hn
end
def a9p(fz:List Nat):List (Nat×SV)→List (Nat×SV)
 |[]=>[]
 |(d,s)::T=>match O2 d fz with|true=>(d,s)::a9p fz T|false=>a9p fz T
theorem b6P{fz:List Nat}{d:Nat}(hd:d∈fz)(T:List (Nat×SV)):A8 (a9p fz T) d=A8 T d:=by
 induction T with
 |nil=>rfl
 |cons p T ih=>
  obtain⟨e,s⟩:=p;simp only[a9p];cases hm:O2 e fz with
  |true=>simp only[A8,ih]
  |false=>
   have hne:Nat.beq e d=false:=S9 fun e'=>by subst e';rw[E1.2 hd]at hm;cases hm
   simp only[A8,hne,ih]
theorem b4d{fz:List Nat}{d:Nat}{s:SV}{T:List (Nat×SV)}(h:A8 (a9p fz T) d=some s):d∈fz:=by
 induction T with
 |nil=>simp[a9p,A8]at h
 |cons p T ih=>
  obtain⟨e,s⟩:=p;simp only[a9p]at h;cases hm:O2 e fz with
  |true=>
   rw[hm]at h;simp only[A8]at h;split at h
   ·rename_i hb;obtain rfl:=z7 hb;exact E1.1 hm
   ·exact ih h
  |false=>rw[hm]at h;exact ih h
theorem c0B{fz:List Nat}{j:Nat}{T:List (Nat×SV)}(h:w8 j T=true):w8 j (a9p fz T)=true:=by
 induction T with
 |nil=>rfl
 |cons p T ih=>
  obtain⟨e,s⟩:=p;simp only[w8]at h;simp only[a9p];cases hm:O2 e fz with
  |true=>
   cases hx:ment j s with
   |true=>rw[hx]at h;cases h
   |false=>rw[hx]at h;simp only[w8,hx];exact ih h
  |false=>
   cases hx:ment j s with
   |true=>rw[hx]at h;cases h
   |false=>rw[hx]at h;exact ih h
section
variable {A : Nat → Prop}{X : Cy}{w0 : World}{bor : List Nat}{st : St}{sy : Sy}{a a' : Act}{W : World}{fz : List Nat}
theorem d2M(hs:Sim A st sy)(hr:Rel (cx X w0 bor) st a' W)(hk:kept fz a a')(hsz:a.tmps.size=X.nt)(hT:∀d x,u0 sy.T d=some x→d∈fz)(ds:List Deferred)(hds:a.defers=ds):
 Sim A ⟨a9p fz st.T,st.H,st.nk,st.w,st.lo,st.iv⟩ sy∧Rel (cx { X with dfs:=ds} w0 bor) ⟨a9p fz st.T,st.H,st.nk,st.w,st.lo,st.iv⟩ a W:=by
 constructor
 ·refine⟨fun d x hx=>?_,hs.H,hs.nk,fun j hj=>c0B (hs.fT j hj),hs.fH⟩;rcases hs.T d x hx with h|⟨s,h1,h2⟩
  ·exact .inl h
  ·exact .inr ⟨s,by rw[b6P (hT d x hx)];exact h1,h2⟩
 ·refine⟨⟨hsz,hr.size.2⟩,fun d s h=>?_,hds,⟨hr.cls.fx,hr.cls.fx0,hr.cls.own,hr.cls.nd,hr.cls.lb,hr.cls.keys,hr.cls.lt⟩,hr.lo,hr.iv⟩;have hd:=b4d h;rw[b6P hd]at h;rcases hr.T d s h with h|h
  ·exact .inl h
  ·right;simp only[N1]at h⊢;rw[←hk d hd];exact h
def b7s:List Nat→List Value→Array Value→Array Value
 |p::ps,v::vs,t=>b7s ps vs (t.setIfInBounds p v)
 |_,_,t=>t
theorem c4s:∀(ps:List Nat) (vs:List Value) (t:Array Value),(ps.zip vs).foldl (fun t (p:Nat×Value)=>t.setIfInBounds p.1 p.2) t=b7s ps vs t
 |[],_,t=>rfl
 |p::ps,[],t=>rfl
 |p::ps,v::vs,t=>by simp only[List.zip_cons_cons,List.foldl_cons,b7s];exact c4s ps vs _
def b8o(X:Cy):List Nat→List D→Sy→(Sy→Prop)→Prop
 |[],[],st,K=>K st
 |p::ps,d::ds,st,K=>O5 X st (some p) d fun st=>b8o X ps ds st K
 |_,_,_,_=>False
theorem c7N{Xx:Cx}{dst:Option Nat}{s:SV}{K:St→Prop}(h:put Xx st dst s K):put Xx st dst s fun st'=>K st'∧st'.w=st.w∧st'.H=st.H∧st'.lo=st.lo∧st'.iv=st.iv:=by
 unfold put at h⊢;cases dst with
 |none=>exact⟨h,rfl,rfl,rfl,rfl⟩
 |some d=>
  obtain⟨T,H,nk,w,lo,iv⟩:=st;simp only at h⊢;split at h
  ·rename_i hd heq;cases heq;exact⟨h,rfl,rfl,rfl,rfl⟩
  ·exact h.elim
theorem c7z{A:Nat→Prop}{st st':St}(hw:st'.w=st.w)(hH:st'.H=st.H)(hl:st'.lo=st.lo)(hi:st'.iv=st.iv):okS A st'=okS A st:=by
 funext b;simp only[okS,hw,hH,hl,hi]
theorem c4O:∀(ps:List Nat) (ds:List D) (vs:List Value) {K:Sy→Prop}{st:St}{sy:Sy}{a:Act},l5 (okS A st) st.w ds vs→b8o X ps ds sy K→Sim A st sy→Rel (cx X w0 bor) st a W→
 ∃st' sy',K sy'∧Sim A st' sy'∧Rel (cx X w0 bor) st' { a with tmps:=b7s ps vs a.tmps} W∧st'.H=st.H
 |[],[],vs,K,st,sy,a,hv,h,hs,hr=>by
  cases vs with
  |nil=>exact⟨st,sy,h,hs,hr,rfl⟩
  |cons v vs=>exact absurd hv (by simp[l5])
 |p::ps,d::ds,[],K,st,sy,a,hv,h,hs,hr=>absurd hv (by simp[l5])
 |p::ps,d::ds,v::vs,K,st,sy,a,hv,h,hs,hr=>by
  have hd:Rep (okS A st) st.w d v:=hv.1;have hput:=c7N (D3 (w0:=w0) (bor:=bor) (s:=.v v) h hs (Rep.rel _ _ hd));obtain⟨st1,⟨⟨sy1,h1,h2⟩,e1,e2,e3,e4⟩,h3,h4⟩:=a1g hr hput (v:=v) (.inr (by simp[den]));obtain⟨st2,sy2,g1,g2,g3,g4⟩:=c4O ps ds vs (by rw[c7z e1 e2 e3 e4,e1];exact hv.2) h1 h2 h3;exact⟨st2,sy2,g1,g2,g3,g4.trans h4⟩
 |[],_::_,_,_,_,_,_,_,h,_,_=>h.elim
 |_::_,[],_,_,_,_,_,_,h,_,_=>h.elim
end
def a8W(P:Program)(gf:FuncId)(caps:List D)(xs:List (List D)):Prop:=
 ∀(ok O0:Nat→Prop) (W:World) (vl:List Value) (n l:Nat) (J:List (List D)→(Nat→Prop)→World→Prop) (Jx:List (List D)→World→Prop),
  l5 ok W caps vl→(∀b,ok b→b<W.heap.size∧¬O0 b)→(∀b,O0 b→b<W.heap.size)→GIW P W→
  (∀pre O A B,J pre O A→A.grownBy B none→J pre O B)→(∀pre A B,Jx pre A→A.grownBy B none→Jx pre B)→
  (∀pre x vals O W1,J pre O W1→(∀b,O b→b<W1.heap.size)→pre++ [x]<+:xs→l5 (fun b=>(ok b∨W.heap.size≤b)∧b<W1.heap.size∧¬O b) W1 x vals→
   YieldAt Fence.wide n P l vals.toArray W1 fun e W'=>
    GIW P W'∧((e=.returned (.bool true)∧∃O',J (pre++ [x]) O' W'∧W1.heap.size≤W'.heap.size∧(∀b,O' b→b<W'.heap.size∧(O b∨W1.heap.size≤b))∧∀b,b<W1.heap.size→¬O b→W'.heap[b]?=W1.heap[b]?)∨
    (e=.returned (.bool false)∧Jx (pre++ [x]) W')))→
  J [] O0 W→
  CallsIn Fence.wide (n+1) P gf (#[.func (.yield l) #[] #[]]++vl.toArray) W fun e W'=>(∃v,e=.returned v)∧((∃O,J xs O W')∨∃pre,pre<+:xs∧Jx pre W')
def c7c:Exit→Code
 |.exit id=>.exit id
 |_=>.ret
def c8s{σ:Type}(f:σ→Sy)(fx:Exit→σ→Sy)(R:List (List D)→σ→Prop)(RX:Exit→List (List D)→σ→Prop)(pre:List (List D))(e:Exit)(sy:Sy):Prop:=
 match e with
 |.normal=>∃s,R pre s∧I1 sy (f s)
 |.ret=>∃s,RX .ret pre s∧I1 sy (fx .ret s)
 |.exit id=>∃s,RX (.exit id) pre s∧I1 sy (fx (.exit id) s)
 |_=>False
abbrev a8n(D:Nat):Deferred:= { target:=.collected D,args:= #[]}
section
variable {A : Nat → Prop}{X : Cy}{w0 : World}{bor : List Nat}{st : St}{sy : Sy}{a : Act}{w : World}
structure Mid(A:Nat→Prop)(X:Cy)(w0:World)(bor:List Nat)(H:Hp)(w:World)(a:Act)(sy:Sy)(W:World):Prop where
 ex:∃st1,Sim A st1 sy∧Rel (cx X w0 bor) st1 a W∧Fx (bs H) w W∧∀b,b∈bs st1.H→b∈bs H∨w.heap.size≤b
theorem Mid.turn{H:Hp}{W W':World}{row:Option Nat}(h:Mid A X w0 bor H w a sy W)(h0:w0.heap.size≤w.heap.size)(hg:W.grownBy W' row)(hrow:∀r,row=some r→w.heap.size≤r∧∃o:Obj,W.heap[r]?=some o∧c2r o=true):Mid A X w0 bor H w a sy W':=by
 obtain⟨st1,hs,hr,hf,hb⟩:=h.ex;obtain⟨h1,h2⟩:=Sx.turn hs hr hg fun r e=>⟨z6 h0 (hrow r e).1,(hrow r e).2⟩
 refine⟨_,h1,h2,⟨hg.os.trans hf.os,hg.tape.trans hf.tape,hg.output.trans hf.output,z6 hf.size hg.size,fun i hi hn=>?_⟩,hb⟩;rw[hg.block i (C5 hi hf.size) fun e=>by have:=(hrow i e.symm).1;omega];exact hf.block i hi hn
def b0z(fz ps:List Nat):Bool:=match fz with
 |[]=>true
 |d::fz=>match O2 d ps with|false=>b0z fz ps|true=>false
theorem c3o{fz ps:List Nat}(h:b0z fz ps=true):∀d,d∈fz→d∉ps:=by
 induction fz with
 |nil=>simp
 |cons e fz ih=>
  simp only[b0z]at h;split at h
  ·rename_i h1;intro d hd;rcases u9.1 hd with rfl|hd
   ·exact fun hm=>absurd (E1.2 hm) (by rw[h1];exact Bool.false_ne_true)
   ·exact ih h d hd
  ·cases h
def b4E(X:Cy)(body:Code)(K:Exit→Sy→Prop):Exit→Sy→Prop
 |.normal,st=>S0 X body st K
 |_,_=>False
theorem c1o{d:Nat}:∀(ps:List Nat) (vs:List Value) (t:Array Value),d∉ps→(b7s ps vs t)[d]?=t[d]?
 |[],_,t,_=>by simp[b7s]
 |p::ps,[],t,_=>by simp[b7s]
 |p::ps,v::vs,t,h=>by
  simp only[u9,not_or]at h;simp only[b7s];rw[c1o ps vs _ h.2,a4r (fun e=>h.1 e.symm)]
structure c4m(B:Nat)(W W':World):Prop where
 size:W.heap.size≤W'.heap.size
 same:∀(k:Nat) (o:Obj),B≤k→W.heap[k]?=some o→c2r o=true→W'.heap[k]?=some o
theorem c0u{H:Hp}{w W W':World}{a:Act}{st:St}{B:Nat}(hc:Cls (cx X w0 bor) st.H st.nk st.w W)(hf:Fx (bs st.H) W W'):c4m B W W':=
 ⟨hf.size,fun k o _ hk ho=>by
  rw[hf.block k (Z8.1 hk).1 fun b hb e=>?_]
  ·exact hk
  ·subst e;obtain⟨j,e,he,hbe⟩:=A3.1 hb;obtain⟨q,hcl,hq⟩:=a9h (hc.own j e he) hbe;rw[hcl]at hk;cases hk;rw[hq]at ho;cases ho⟩
def d1A(A:Nat→Prop)(X:Cy)(w0:World)(bor:List Nat)(H:Hp)(w:World)(a:Act)(sy:Sy)(O:Nat→Prop)(W:World):Prop:=
 ∃st1,Sim A st1 sy∧Rel (cx X w0 bor) st1 a W∧Fx (bs H) w W∧(∀b,b∈bs st1.H→b∈bs H∨w.heap.size≤b)∧∀b,b∈bs st1.H→O b
theorem a7X{A B:World}(hg:A.grownBy B none){k:Nat}{o:Obj}(h:A.heap[k]?=some o):B.heap[k]?=some o:=
 (hg.block k (Z8.1 h).1 (by simp)).trans h
theorem c7q(hA:AG A X.P w0 bor)(hP:POK X.P X.tt)(hs:Sim A st sy)(hr:Rel (cx X w0 bor) st a w){g:Operand}{ps:Array Tmp}{assign body:Code}{gf:FuncId}{caps:List D}{vl:List Value}{xs:List (List D)}{Q:Exit→Act→World→Prop}
 (hg:a.eval g=.func (.func gf) #[] vl.toArray) (hcaps:l5 (okS A (now st w)) w caps vl) (hit:a8W X.P gf caps xs) (heg:∀args w,(callFunc gf args).run X.P w=.ok (.enter gf args) w) (hps:∀x,x∈xs→x.length=ps.size)
 {fz:List Nat} (hak:P8 fz assign=true) (hbk:P8 fz body=true) (hfree:b0z fz ps.toList=true)
 {σ:Type} (f:σ→Sy) (fx:Exit→σ→Sy) (R:List (List D)→σ→Prop) (RX:Exit→List (List D)→σ→Prop) (s0:σ) (hstart:I1 sy (f s0)) (h0:R [] s0)
 (hdom:∀s d x,u0 (f s).T d=some x→d∈fz) (hdomx:∀e s d x,u0 (fx e s).T d=some x→d∈fz)
 (hround:∀(pre:List (List D)) (s:σ) (x:List D),pre++ [x]<+:xs→R pre s→∃RK:Exit→Sy→Prop,(∀e sy,RK e sy→c8s f fx R RX (pre++ [x]) e sy)∧b8o { X with dfs:=[]} ps.toList x (f s) fun st1=>S0 { X with dfs:=[]} assign st1 (b4E { X with dfs:=[]} body RK))
 (hdone:∀(D:Nat) (s:σ) (W:World),w.heap.size≤D→W.heap[D]?=some (.deferred (some []))→R xs s→Mid A { X with dfs:=a8n D::X.dfs} w0 bor st.H w { a with defers:=a8n D::a.defers} (f s) W→Q .normal { a with defers:=a8n D::a.defers} W)
 (hstop:∀(dd:Nat) (e:Exit) (pre:List (List D)) (s:σ) (W:World),w.heap.size≤dd→W.heap[dd]?=some (.deferred (some []))→pre<+:xs→RX e pre s→(e=.ret∨∃id,e=.exit id)→Mid A { X with dfs:=a8n dd::X.dfs} w0 bor st.H w { a with defers:=a8n dd::a.defers} (fx e s) W→Q e { a with defers:=a8n dd::a.defers} W):
 (Code.rangeFunc g ps assign body).wp X.P Q a w:=by
 have hw0:w0.heap.size≤w.heap.size:=hr.cls.fx0.size;obtain⟨X0,hX0⟩:∃X0:Cy,X0= { X with dfs:=[]}:=⟨_,rfl⟩
 rw[←hX0]at hround;have hP0:POK X0.P X0.tt:=by rw[hX0];exact hP
 have hXP:X.P=X0.P:=by rw[hX0]
 have hA0:AG A X0.P w0 bor:=by rw[hX0];exact hA
 have hsz:a.tmps.size=X.nt:=hr.size.1;obtain⟨a0,ha0⟩:∃a0:Act,a0= { a with defers:=[]}:=⟨_,rfl⟩
 obtain⟨J0,hJ0⟩:∃J0:Sy→(Nat→Prop)→World→Prop,J0=d1A A X0 w0 bor st.H w a0:=⟨_,rfl⟩
 have toMid:∀ {sy':Sy}{st':St}{a':Act}{W:World} (ds:List Deferred),Sim A st' sy'→Rel (cx X0 w0 bor) st' a' W→kept fz a a'→(∀d x,u0 sy'.T d=some x→d∈fz)→Fx (bs st.H) w W→(∀b,b∈bs st'.H→b∈bs st.H∨w.heap.size≤b)→∃st1,Sim A st1 sy'∧Rel (cx { X with dfs:=ds} w0 bor) st1 { a with defers:=ds} W∧st1.H=st'.H:=by
  intro sy' st' a' W ds h1 h2 h3 h4 h5 h6;obtain⟨g1,g2⟩:=d2M (a:= { a with defers:=ds}) h1 h2 h3 (by rw[hX0];exact hsz) h4 ds rfl
  exact⟨_,g1,by rw[hX0]at g2;exact g2,rfl⟩
 --the state between two rounds,at the act behind the loop
 have toEnd:∀ {sy':Sy}{O:Nat→Prop}{W:World} (dd:Nat),J0 sy' O W→(∀d x,u0 sy'.T d=some x→d∈fz)→Mid A { X with dfs:=a8n dd::X.dfs} w0 bor st.H w { a with defers:=a8n dd::a.defers} sy' W:=by
  intro sy' O W D h hd;rw[hJ0]at h;obtain⟨st1,g1,g2,g3,g4,g5⟩:=h;obtain⟨st2,e1,e2,e3⟩:=toMid (a8n D::X.dfs) g1 g2 (by rw[ha0];exact fun _ _=>rfl) hd g3 g4;rw[show a.defers=X.dfs from hr.dfs];exact⟨st2,e1,e2,g3,by rw[e3];exact g4⟩
 have giJ:∀ {sy':Sy}{O:Nat→Prop}{W:World},J0 sy' O W→GIW X.P W:=by
  intro sy' O W h;rw[hJ0]at h;obtain⟨_,_,g2,_⟩:=h;exact hA.fx g2.cls.fx0
 have J0turn:∀ {sy':Sy}{O:Nat→Prop}{W W':World}{row:Option Nat},J0 sy' O W→W.grownBy W' row→(∀r,row=some r→w.heap.size≤r∧∃o:Obj,W.heap[r]?=some o∧c2r o=true)→J0 sy' O W':=by
  intro sy' O W W' row h hg hrow;rw[hJ0]at h⊢;obtain⟨st1,hs,hr,hf,hb,hO⟩:=h;obtain⟨h1,h2⟩:=Sx.turn hs hr hg fun r e=>⟨z6 hw0 (hrow r e).1,(hrow r e).2⟩
  refine⟨_,h1,h2,⟨hg.os.trans hf.os,hg.tape.trans hf.tape,hg.output.trans hf.output,z6 hf.size hg.size,fun i hi hn=>?_⟩,hb,hO⟩;rw[hg.block i (C5 hi hf.size) fun e=>by have:=(hrow i e.symm).1;omega];exact hf.block i hi hn
 refine(wpIn_wide (n:=2)).1 (wpIn_rangeFunc ?_);intro fn hfn;obtain⟨rec,hrec⟩:∃rec:LoopState→Option Code→Loop,rec=fun st pe=> { state:=st,pending:=pe,fn,tmps:=a.tmps,params:=ps,assign,body,defers:=w.heap.size}:=⟨_,rfl⟩
 obtain⟨W1,hW1⟩:∃W1,(w.alloc (.deferred (some []))).alloc (.loop (rec .ready none))=W1:=⟨_,rfl⟩;obtain⟨L,hL⟩:∃L,L=w.heap.size+1:=⟨_,rfl⟩;have hsize1:W1.heap.size=w.heap.size+2:=by rw[←hW1];simp
 have hL1:W1.heap[L]?=some (.loop (rec .ready none)):=by
  rw[←hW1,hL];have:=World.alloc_heap_new (w.alloc (.deferred (some []))) (.loop (rec .ready none));rwa [World.size_alloc]at this
 have hK1:W1.heap[w.heap.size]?=some (.deferred (some [])):=by
  rw[←hW1];exact(Below.heap_alloc _ _ _ (by simp)).trans (World.alloc_heap_new w _)
 have hg1:w.grownBy W1 none:=by
  rw[←hW1];have h1:=World.grownBy_alloc w (.deferred (some [])) none;have h2:=World.grownBy_alloc (w.alloc (.deferred (some []))) (.loop (rec .ready none)) none;exact⟨h2.os.trans h1.os,h2.tape.trans h1.tape,h2.output.trans h1.output,z6 h1.size h2.size,fun k hk hn=>(h2.block k (C5 hk h1.size) hn).trans (h1.block k hk hn)⟩
 obtain⟨st0,hs0,hr0,hb0⟩:=hstart.rel hA hs hr
 have hr0':Rel (cx X0 w0 bor) st0 a0 w:=by
  rw[hX0,ha0];exact⟨hr0.size,hr0.T,rfl,⟨hr0.cls.fx,hr0.cls.fx0,hr0.cls.own,hr0.cls.nd,hr0.cls.lb,hr0.cls.keys,hr0.cls.lt⟩,hr0.lo,hr0.iv⟩
 obtain⟨O0,hO0⟩:∃O0:Nat→Prop,O0=fun b=>b∈bs st0.H∨b=L∨b=w.heap.size:=⟨_,rfl⟩
 have hJ1:J0 (f s0) O0 W1:=J0turn (row:=none) (W:=w) (by rw[hJ0,hO0];exact⟨st0,hs0,hr0',Fx.refl _ _,fun b hb=>.inl (hb0 b hb),fun b hb=>.inl hb⟩) hg1 (by simp)
 refine⟨L,[{ target:=.collected w.heap.size,args:= #[]}],W1, { target:=.fn (.func gf) vl.toArray,args:= #[.func (.yield L) #[] #[]]},W1,gf,
  #[.func (.yield L) #[] #[]]++vl.toArray,W1,?_,?_,?_,?_,fun _=>by omega,?_⟩
 ·rw[←hW1,hrec,hL];exact run_enterLoop_outer _ _ _ _ _
 ·simp only[resolve,hg];simp[go_sem]
 ·intro f' _;trivial
 ·simp[invoke,go_sem,heg]
 ·refine(hit (okS A (now st w)) O0 W1 vl 0 L
   (fun pre O W=>(∃s,R pre s∧J0 (f s) O W)∧O L∧O w.heap.size∧W.heap[L]?=some (.loop (rec .ready none))∧W.heap[w.heap.size]?=some (.deferred (some [])))
   (fun pre W=>∃e s O,(e=.ret∨∃id,e=.exit id)∧RX e pre s∧J0 (fx e s) O W∧W.heap[L]?=some (.loop (rec .done (some (c7c e))))∧W.heap[w.heap.size]?=some (.deferred (some [])))
   (l5.mono (fun b hb=>⟨hb,hg1.block b hb.2.1 (by simp)⟩) _ _ hcaps) ?_ ?_ ((hA.giw hr.cls).same hg1.size fun b hb=>hg1.block b (C5 hb (hA.giw hr.cls).size) (by simp)) ?_ ?_ ?_ ⟨⟨s0,h0,hJ1⟩,by rw[hO0];exact .inr (.inl rfl),by rw[hO0];exact .inr (.inr rfl),hL1,hK1⟩).mono ?_
  ·intro b hb;refine⟨by have:=hb.2.1;simp only[now]at this;omega,fun hO=>?_⟩;rw[hO0]at hO;have h1:b<w.heap.size:=hb.2.1;rcases hO with h|h|h
   ·exact hb.2.2 b (hb0 b h) rfl
   ·omega
   ·omega
  ·intro b hb;rw[hO0]at hb;rcases hb with h|h|h
   ·have:=hr0.cls.lt_size h;omega
   ·omega
   ·omega
  ·rintro pre O A B ⟨⟨s,h1,h2⟩,h3,h4,h5,h6⟩ hg;exact⟨⟨s,h1,J0turn h2 hg (by simp)⟩,h3,h4,a7X hg h5,a7X hg h6⟩
  ·rintro pre A B ⟨e,s,O,h1,h2,h3,h5,h6⟩ hg;exact⟨e,s,O,h1,h2,J0turn h3 hg (by simp),a7X hg h5,a7X hg h6⟩
  ·--a round
   rintro pre x vals O W ⟨⟨s,hR,hm⟩,hOL,hOD,hl,hk⟩ hO hpre hvals;have hlt:L<W.heap.size:=hO L hOL;have hxm:x∈xs:=hpre.subset (by simp);have hy:=run_yield (P:=X.P) (args:=vals.toArray) hl (by rw[hrec];simp[←hvals.length,hps x hxm]);rw[hrec]at hy;rw[hJ0]at hm;obtain⟨st1,hs1,hr1,hf1,hb1,hO1⟩:=hm;have hs1':=hs1.now hr1.cls;have hr1':=hr1.now;refine⟨fn,_,assign,body,hy,roundIn_of_wpIn hfn ?_⟩
   have hz:(ps.zip vals.toArray).foldl (fun t (p,v)=>t.setIfInBounds p v) a.tmps=b7s ps.toList vals a.tmps:=by
    rw[←c4s,←Array.foldl_toList];simp
   rw[hz]
   have hvals2:l5 (okS A (now st1 W)) (now st1 W).w x vals:=l5.mono (fun b hb=>by
    refine⟨⟨⟨.inl hb.2.1,?_⟩,hb.2.1,fun c hc e=>hb.2.2 (e▸hO1 c hc)⟩,rfl⟩;rcases hb.1 with h|h
    ·exact h.1.2
    ·exact hA.a b (.inl (by omega))) _ _ hvals
   obtain⟨RK,hRK,hrd⟩:=hround pre s x hpre hR;obtain⟨st2,sy2,k2,hs2,hr2,e2⟩:=c4O _ _ vals hvals2 hrd hs1' hr1';have e2:st2.H=st1.H:=e2;have hk0:kept fz a { tmps:=b7s ps.toList vals a.tmps,defers:=[]}:=fun d hd=>c1o _ _ _ (c3o hfree d hd)
   have ht0:a0.tmps=a.tmps:=by rw[ha0]
   have hd0:a0.defers=[]:=by rw[ha0]
   rw[ht0,hd0]at hr2;rw[hXP];refine b6p (X:=X0) L _ fz hA0 hP0 assign hak st2 sy2 a _ W _ _ hk0 k2 hs2 hr2 fun e st3 sy3 a3 W3 hp hk3 hs3 hlv3 hkp3=>?_
   cases e with
   |exit id=>exact hk3.elim
   |ret=>exact hk3.elim
   |goto l=>exact hp.elim
   |panic c=>exact hp.elim
   |outgrown=>exact hp.elim
   |normal=>
   have hkeep3:c4m w.heap.size W W3:=c0u (H:=st2.H) (w:=w) (a:=a) hr2.cls hlv3.fx;have hl3:W3.heap[L]?=some (.loop (rec .ready none)):=hkeep3.same L _ (by omega) hl rfl;have hk3':W3.heap[w.heap.size]?=some (.deferred (some [])):=hkeep3.same _ _ (y6 _) hk rfl;have hlt3:L<W3.heap.size:=(Z8.1 hl3).1;obtain⟨W2,hW2⟩:∃W2,W2=W3.putObj L (.loop { rec .ready none with state:=.busy}):=⟨_,rfl⟩
   have hg2:W3.grownBy W2 (some L):=by rw[hW2];exact grownBy_putObj' W3 L _
   have hl2:W2.heap[L]?=some (.loop { rec .ready none with state:=.busy}):=by rw[hW2];exact World.putObj_heap_same hlt3
   have hk2:W2.heap[w.heap.size]?=some (.deferred (some [])):=by rw[hW2];exact(b6d (by omega)).trans hk3'
   obtain⟨hs4,hr4⟩:=Sx.turn hs3 hlv3.rel hg2 (by intro r e;cases e;exact⟨by omega,_,hl3,rfl⟩);refine⟨W2,by rw[hW2];exact run_beginRound hl3 (by rw[hrec]),?_⟩
   have hO3:∀b,b∈bs st3.H→O b∨W.heap.size≤b:=fun b hb=>by
    rcases hlv3.bs b hb with h|h
    ·exact .inl (hO1 b (e2▸h))
    ·exact .inr h
   have hb3:∀b,b∈bs st3.H→b∈bs st.H∨w.heap.size≤b:=fun b hb=>by
    rcases hlv3.bs b hb with h|h
    ·exact hb1 b (e2▸h)
    ·exact .inr (z6 hf1.size h)
   have hfx3:Fx (bs st.H) w W3:=Fx.trans hf1 hlv3.fx (fun _ h=>h) fun i hi=>hb1 i (e2▸hi)
   have hfx2:Fx (bs st.H) w W2:=⟨hg2.os.trans hfx3.os,hg2.tape.trans hfx3.tape,hg2.output.trans hfx3.output,z6 hfx3.size hg2.size,fun i hi hn=>by
    rw[hg2.block i (C5 hi hfx3.size) (by simp;omega)];exact hfx3.block i hi hn⟩
   refine b6p (X:=X0) L _ fz hA0 hP0 body hbk _ sy3 a a3 W2 _ _ hkp3 hk3 hs4 hr4 fun e st4 sy4 a4 W4 hp hk hs4 hl4 hkp4=>?_
   have hkeep:c4m w.heap.size W2 W4:=c0u (H:=st3.H) (w:=w) (a:=a) hr4.cls hl4.fx;have hfx4:Fx (bs st.H) w W4:=Fx.trans hfx2 hl4.fx (fun _ h=>h) fun i hi=>hb3 i hi
   have hbs4:∀b,b∈bs st4.H→b∈bs st.H∨w.heap.size≤b:=fun b hb=>by
    rcases hl4.bs b hb with h|h
    ·exact hb3 b h
    ·exact .inr (z6 hfx2.size h)
   have hl4':W4.heap[L]?=some (.loop { rec .ready none with state:=.busy}):=hkeep.same L _ (by omega) hl2 rfl
   have hk4':W4.heap[w.heap.size]?=some (.deferred (some [])):=hkeep.same _ _ (y6 _) hk2 rfl;have hlt4:L<W4.heap.size:=(Z8.1 hl4').1;obtain⟨O',hO'⟩:∃O':Nat→Prop,O'=fun b=>b∈bs st4.H∨b=L∨b=w.heap.size:=⟨_,rfl⟩
   have fin:∀(jump:Option Code) {sy5:Sy},I1 sy4 sy5→(∀d x,u0 sy5.T d=some x→d∈fz)→
    (Instr.endRound L jump).run X0.P W4=.ok (.bool jump.isNone) (W4.putObj L (.loop (rec (if jump.isNone then .ready else .done) jump)))∧
    (W4.putObj L (.loop (rec (if jump.isNone then .ready else .done) jump))).heap[L]?=some (.loop (rec (if jump.isNone then .ready else .done) jump))∧
    (W4.putObj L (.loop (rec (if jump.isNone then .ready else .done) jump))).heap[w.heap.size]?=some (.deferred (some []))∧J0 sy5 O' (W4.putObj L (.loop (rec (if jump.isNone then .ready else .done) jump))):=by
    intro jump sy5 hsub hdm;have hrun:=run_endRound (P:=X0.P) jump hl4';obtain⟨st5,g1,g2,g3⟩:=hsub.rel hA0 hs4 hl4.rel;obtain⟨st6,i1,i2,i3⟩:=toMid [] g1 g2 hkp4 hdm hfx4 fun b hb=>hbs4 b (g3 b hb)
    refine⟨by rw[hrec]at hrun⊢;exact hrun,World.putObj_heap_same hlt4,(b6d (by omega)).trans hk4',?_⟩;refine J0turn (W:=W4) (row:=some L) ?_ (grownBy_putObj' W4 L _) (by intro r e;cases e;exact⟨by omega,_,hl4',rfl⟩);rw[hJ0];refine⟨st6,i1,by rw[hX0,ha0];exact i2,hfx4,by rw[i3];exact fun b hb=>hbs4 b (g3 b hb),?_⟩;rw[i3,hO'];exact fun b hb=>.inl (g3 b hb)
   have hk:=hRK _ _ hk;cases e with
   |normal=>
    obtain⟨s',q1,q2⟩:=hk;obtain⟨f1,f2,f3,f4⟩:=fin none q2 (hdom s');refine⟨_,_,f1,(hXP▸giJ f4),.inl ⟨rfl,O',⟨⟨s',q1,f4⟩,by rw[hO'];exact .inr (.inl rfl),by rw[hO'];exact .inr (.inr rfl),f2,f3⟩,?_,?_,?_⟩⟩
    ·have h1:=hg2.size;have h2:=hkeep.size;have h3:=hkeep3.size;simp;omega
    ·intro b hb;rw[hO']at hb;rcases hb with h|h|h
     ·refine⟨by have:=hl4.rel.cls.lt_size h;simpa using this,?_⟩
      rcases hl4.bs b h with h|h
      ·exact hO3 b h
      ·exact .inr (z6 hkeep3.size (z6 hg2.size h))
     ·subst h;exact⟨by simpa using hlt4,.inl hOL⟩
     ·subst h;exact⟨by simp;omega,.inl hOD⟩
    ·intro b hb hn;have hne:b≠L:=fun e=>hn (e▸hOL)
     rw[b6d hne];have hb3':b<W3.heap.size:=C5 hb hkeep3.size
     rw[hl4.fx.block b (C5 hb3' hg2.size) fun c hc e=>by
      rcases hO3 c hc with h|h
      ·exact hn (e▸h)
      ·omega]
     rw[hg2.block b hb3' (by simpa using hne)]
     exact hlv3.fx.block b hb fun c hc e=>hn (e▸hO1 c (e2▸hc))
   |ret=>
    obtain⟨s',q1,q2⟩:=hk;obtain⟨f1,f2,f3,f4⟩:=fin (some .ret) q2 (hdomx _ s');exact⟨_,_,f1,(hXP▸giJ f4),.inr ⟨rfl,.ret,s',O',.inl rfl,q1,f4,f2,f3⟩⟩
   |exit id=>
    obtain⟨s',q1,q2⟩:=hk;obtain⟨f1,f2,f3,f4⟩:=fin (some (.exit id)) q2 (hdomx _ s');exact⟨_,_,f1,(hXP▸giJ f4),.inr ⟨rfl,.exit id,s',O',.inr ⟨id,rfl⟩,q1,f4,f2,f3⟩⟩
   |goto l=>exact hp.elim
   |panic c=>exact hp.elim
   |outgrown=>exact hp.elim
  ·rintro e W2 ⟨⟨v,rfl⟩,(⟨O,⟨s,hR,hm⟩,hOL,hOD,hl,hk⟩|⟨pre,hpre,e,s,O,he,hRX,hm,hl,hk⟩)⟩
   ·refine⟨none,_,by have:=run_endLoop (P:=X.P) hl (by rw[hrec];simp);rw[hrec]at this;exact this,?_⟩;exact hdone _ s _ (y6 _) ((b6d (by omega)).trans hk) hR (toEnd _ (J0turn hm (grownBy_putObj' W2 L _) (by intro r e;cases e;exact⟨by omega,_,hl,rfl⟩)) (hdom s))
   ·refine⟨some (c7c e),_,by have:=run_endLoop (P:=X.P) hl (by rw[hrec];simp);rw[hrec]at this;exact this,?_⟩;rcases he with rfl|⟨id,rfl⟩
    ·refine wpIn_ret ?_;exact hstop _ .ret pre s _ (y6 _) ((b6d (by omega)).trans hk) hpre hRX (.inl rfl) (toEnd _ (J0turn hm (grownBy_putObj' W2 L _) (by intro r e;cases e;exact⟨by omega,_,hl,rfl⟩)) (hdomx _ s))
    ·refine wpIn_exit ?_;exact hstop _ (.exit id) pre s _ (y6 _) ((b6d (by omega)).trans hk) hpre hRX (.inr ⟨id,rfl⟩) (toEnd _ (J0turn hm (grownBy_putObj' W2 L _) (by intro r e;cases e;exact⟨by omega,_,hl,rfl⟩)) (hdomx _ s))
end
structure a6A(X:Cy)(g:Operand)(ps:Array Tmp)(assign body:Code)(st:Sy)(K:Exit→Sy→Prop):Prop where
 ex:∃(gf:FuncId) (caps:List D) (xs:List (List D)) (fz:List Nat) (σ:Type) (f:σ→Sy) (fx:Exit→σ→Sy) (R:List (List D)→σ→Prop) (RX:Exit→List (List D)→σ→Prop) (s0:σ),
  evY st g=some (.fn gf [] caps)∧U3 caps=true∧a8W X.P gf caps xs∧(∀args w,(callFunc gf args).run X.P w=.ok (.enter gf args) w)∧(∀x,x∈xs→x.length=ps.size)∧P8 fz assign=true∧P8 fz body=true∧b0z fz ps.toList=true∧
  I1 st (f s0)∧R [] s0∧(∀s d x,u0 (f s).T d=some x→d∈fz)∧(∀e s d x,u0 (fx e s).T d=some x→d∈fz)∧
  (∀(pre:List (List D)) (s:σ) (x:List D),pre++ [x]<+:xs→R pre s→∃RK:Exit→Sy→Prop,(∀e sy,RK e sy→c8s f fx R RX (pre++ [x]) e sy)∧b8o { X with dfs:=[]} ps.toList x (f s) fun st1=>S0 { X with dfs:=[]} assign st1 (b4E { X with dfs:=[]} body RK))∧
  (∀s,R xs s→K .normal (f s))∧(∀e pre s,pre<+:xs→RX e pre s→(e=.ret∨∃id,e=.exit id)→K e (fx e s))
def a9x(X:Cy):Code→Sy→(Exit→Sy→Prop)→Prop
 |.seq a b,st,K=>a9x X a st fun e st'=>match e with
  |.normal=>a9x X b st' K
  |e=>K e st'
 |.block id c,st,K=>a9x X c st fun e st'=>match e with
  |.exit j=>(match Nat.beq j id with|true=>K .normal st'|false=>K (.exit j) st')
  |e=>K e st'
 |.cond c t e,st,K=>match evY st c with
  |some (.v (.bool b))=>VIf b (a9x X t st K) (a9x X e st K)
  |_=>False
 |.scope c,st,K=>a9x X c st K
 |.rangeFunc g ps assign body,st,K=>a6A X g ps assign body st K
 |c,st,K=>∀ds,S0 { X with dfs:=ds} c st K
def b1t(ds ds':List Deferred)(w w':World):Prop:=∃l:List Nat,ds'=l.map a8n++ds∧l.Nodup∧∀D,D∈l→w.heap.size≤D∧w'.heap[D]?=some (.deferred (some []))
theorem b1t.refl(ds:List Deferred)(w w':World):b1t ds ds w w':=⟨[],rfl,by simp,by simp⟩
section
variable {A : Nat → Prop}{X : Cy}{w0 : World}{bor : List Nat}
theorem d0o{H:Hp}{nk:Nat}{ws w:World}{D:Nat}{o:Obj}(hc:Cls (cx X w0 bor) H nk ws w)(hD:w.heap[D]?=some o)(ho:c2r o=true):∀b,b∈bs H→b≠D:=by
 intro b hb e;subst e;obtain⟨j,e,he,hbe⟩:=A3.1 hb;obtain⟨q,hcl,hq⟩:=a9h (hc.own j e he) hbe;rw[hcl]at hD;cases hD;rw[hq]at ho;cases ho
theorem b1t.trans{X1:Cy}{ds ds1 ds2:List Deferred}{H:Hp}{nk:Nat}{ws w w1 w2:World}(h:b1t ds ds1 w w1)(k:b1t ds1 ds2 w1 w2)(hc:Cls (cx X1 w0 bor) H nk ws w1)(hf:Fx (bs H) w1 w2)(hw:w.heap.size≤w1.heap.size):b1t ds ds2 w w2:=by
 obtain⟨l,rfl,hn,hl⟩:=h;obtain⟨r,rfl,hm,hr⟩:=k;have hlt:∀D,D∈l→D<w1.heap.size:=fun D hD=>(Z8.1 (hl D hD).2).1
 refine⟨r++l,by simp,?_,fun D hD=>?_⟩
 ·rw[a6X];refine⟨hm,hn,fun x hx y hy e=>?_⟩;subst e;have:=(hr x hx).1;have:=hlt x hy;omega
 ·rcases E3.1 hD with h|h
  ·exact⟨z6 hw (hr D h).1,(hr D h).2⟩
  ·refine⟨(hl D h).1,?_⟩;rw[hf.block D (hlt D h) (d0o hc (hl D h).2 rfl)];exact(hl D h).2
theorem Lv.hop{X1 X2:Cx}{H:Hp}{w w1 w2:World}{st1 st2:St}{a1 a2:Act}(h:Lv X1 H w st1 a1 w1)(k:Lv X2 st1.H w1 st2 a2 w2):Lv X2 H w st2 a2 w2:=
 ⟨k.rel,Fx.trans h.fx k.fx (fun _ h=>h) fun i hi=>h.bs i hi,fun b hb=>by
  rcases k.bs b hb with h1|h1
  ·exact h.bs b h1
  ·exact .inr (z6 h.fx.size h1)⟩
theorem c8n(hA:AG A X.P w0 bor)(hP:POK X.P X.tt)(c:Code):∀(st:St) (sy:Sy) (a:Act) (w:World) (ds:List Deferred) (K:Exit→Sy→Prop) (Q:Exit→Act→World→Prop),a9x X c sy K→Sim A st sy→Rel (cx { X with dfs:=ds} w0 bor) st a w→
 (∀e st' sy' a' w' ds',plain e→K e sy'→Sim A st' sy'→Lv (cx { X with dfs:=ds'} w0 bor) st.H w st' a' w'→b1t ds ds' w w'→Q e a' w')→c.wp X.P Q a w:=by
 have plainC:∀(c:Code) (st:St) (sy:Sy) (a:Act) (w:World) (ds:List Deferred) (K:Exit→Sy→Prop) (Q:Exit→Act→World→Prop),(∀ds,S0 { X with dfs:=ds} c sy K)→Sim A st sy→Rel (cx { X with dfs:=ds} w0 bor) st a w→
  (∀e st' sy' a' w' ds',plain e→K e sy'→Sim A st' sy'→Lv (cx { X with dfs:=ds'} w0 bor) st.H w st' a' w'→b1t ds ds' w w'→Q e a' w')→c.wp X.P Q a w:=
  fun c st sy a w ds K Q h hs hr hQ=>a4m (X:= { X with dfs:=ds}) hA hP c st sy a w K Q (h ds) hs hr fun e st' sy' a' w' hp hk hs' hl=>hQ e st' sy' a' w' ds hp hk hs' hl (b1t.refl _ _ _)
 induction c with
 |seq x y ihx ihy=>
  intro st sy a w ds K Q h hs hr hQ;refine wp_seq (ihx st sy a w ds _ _ h hs hr fun e st1 sy1 a1 w1 ds1 hp hk hs1 hl hm=>?_);cases e with
  |normal=>exact ihy st1 sy1 a1 w1 ds1 K Q hk hs1 hl.rel fun e st2 sy2 a2 w2 ds2 hp hk2 hs2 hl2 hm2=>hQ e st2 sy2 a2 w2 ds2 hp hk2 hs2 (Lv.hop hl hl2) (hm.trans hm2 hl.rel.cls hl2.fx hl.fx.size)
  |exit id=>exact hQ _ _ _ _ _ _ hp hk hs1 hl hm
  |ret=>exact hQ _ _ _ _ _ _ hp hk hs1 hl hm
  |goto l=>exact hp.elim
  |panic c=>exact hp.elim
  |outgrown=>exact hp.elim
 |block id c ih=>
  intro st sy a w ds K Q h hs hr hQ;refine wp_block (ih st sy a w ds _ _ h hs hr fun e st1 sy1 a1 w1 ds1 hp hk hs1 hl hm=>?_);cases e with
  |normal=>exact hQ _ _ _ _ _ _ hp hk hs1 hl hm
  |exit j=>
   simp only[Exit.inBlock];simp only at hk;split at hk
   ·rename_i hb;rw[k9 (z7 hb)];exact hQ .normal _ _ _ _ _ trivial hk hs1 hl hm
   ·rename_i hb;rw[j6 (a3y hb)];exact hQ _ _ _ _ _ _ hp hk hs1 hl hm
  |ret=>exact hQ _ _ _ _ _ _ hp hk hs1 hl hm
  |goto l=>exact hp.elim
  |panic c=>exact hp.elim
  |outgrown=>exact hp.elim
 |cond c x y ihx ihy=>
  intro st sy a w ds K Q h hs hr hQ;simp only[a9x]at h;split at h
  ·rename_i b hcd;obtain⟨s,h1,h2,_⟩:=o0 hs hcd;have:=h2.sc;subst this;have hb:a.eval c=.bool b:=by simpa[den]using (hr.ev c _ h1).2
   cases b with
   |true=>exact wp_cond_true hb (ihx st sy a w ds K Q h hs hr hQ)
   |false=>exact wp_cond_false hb (ihy st sy a w ds K Q h hs hr hQ)
  ·exact h.elim
 |scope c ih=>
  intro st sy a w ds K Q h hs hr hQ;simp only[a9x]at h;refine wp_scope_straight (ih st sy a w ds K _ h hs hr fun e st1 sy1 a1 w1 ds1 hp hk hs1 hl hm=>?_);cases e with
  |normal=>exact hQ _ _ _ _ _ _ hp hk hs1 hl hm
  |exit j=>exact hQ _ _ _ _ _ _ hp hk hs1 hl hm
  |ret=>exact hQ _ _ _ _ _ _ hp hk hs1 hl hm
  |goto l=>exact hp.elim
  |panic c=>exact hp.elim
  |outgrown=>exact hp.elim
 |rangeFunc g ps assign body _ _=>
  intro st sy a w ds K Q h hs hr hQ;have h:a6A X g ps assign body sy K:=h;obtain⟨gf,caps,xs,fz,σ,f,fx,R,RX,s0,hg,hcl,hit,heg,hps,hasg,hbk,hfree,hst,h0,hdom,hdomx,hround,hdone,hstop⟩:=h.ex;obtain⟨s,h1,h2,_⟩:=o0 hs hg;have hev:=(hr.ev g _ h1).2;have h2':=j5.mono (a5h hr.cls) (fun _ _ h=>h) _ _ h2;have hrep:=a5b (H:=st.H) _ _ h2' (by simpa[a0T,U3]using hcl)
  simp only[Rep]at hrep;obtain⟨p,q,e1,e2,e3⟩:=hrep
  have hp0:p= #[]:=by
   cases hp:p.toList with
   |nil=>exact Array.toList_inj.1 (by simp[hp])
   |cons v l=>rw[hp]at e2;simp[l5]at e2
  refine c7q (X:= { X with dfs:=ds}) hA hP hs hr (vl:=q.toList) (by rw[hev,e1,hp0]) e3 hit heg hps hasg hbk hfree f fx R RX s0 hst h0 hdom hdomx hround (fun D s W hD hdef hR hm=>?_) fun D e pre s W hD hdef hpre hRX he hm=>?_
  ·obtain⟨st1,g1,g2,g3,g4⟩:=hm.ex;exact hQ .normal st1 _ _ W _ trivial (hdone s hR) g1 ⟨g2,g3,g4⟩ ⟨[D],rfl,by simp,by simpa using ⟨hD,hdef⟩⟩
  ·obtain⟨st1,g1,g2,g3,g4⟩:=hm.ex;exact hQ e st1 _ _ W _ (by rcases he with rfl|⟨id,rfl⟩<;>trivial) (hstop e pre s hpre hRX he) g1 ⟨g2,g3,g4⟩ ⟨[D],rfl,by simp,by simpa using ⟨hD,hdef⟩⟩
 |_=>exact plainC _
end
theorem b6L{X:Cy}{ds:List Deferred}{st:Sy}:∀rs:List ResultVar,a1G { X with dfs:=ds} st rs=a1G X st rs
 |[]=>rfl
 |.tmp t::r=>by simp only[a1G,b6L r]
 |.cell a t::r=>by simp only[a1G,b6L r]
section
variable {A : Nat → Prop}{X : Cy}{w0 : World}{bor : List Nat}{sy : Sy}{a : Act}
theorem b8n(hA:AG A X.P w0 bor)(hP:POK X.P X.tt){fn:Func}{Qr:D→Prop}{Rr:Ending→World→Prop}{n:Nat}{ds:List Deferred}
 (hk:match a1G X sy fn.results.toList with
  |some [s]=>a2Q sy s Qr
  |some l=>a2Q sy (.tup l) Qr
  |none=>False)
 (hR:∀v r w',Qr r→Rep (fun b=>A b∧b<w'.heap.size) w' r v→Fx bor w0 w'→Rr (.returned v) w'):∀(l:List Nat) (st:St) (W:World),Sim A st sy→Rel (cx { X with dfs:=ds} w0 bor) st a W→l.Nodup→(∀D,D∈l→w0.heap.size≤D∧W.heap[D]?=some (.deferred (some [])))→
 LeavesInM Fence.wide n X.P fn a.tmps Rr (l.map a8n) .returning W
 |[],st,W,hs,hr,_,_=>by
  have main:∀ {r:D}{s:SV},a2Q sy r Qr→j5 (okS A st) st.w (B0 st) r s→(results fn a.tmps).run X.P W=.ok (den st.H s) W→∃v,(results fn a.tmps).run X.P W=.ok v W∧Rr (.returned v) W:=by
   intro r s hret hrel hrun;obtain⟨r',hq,hrp⟩:=b1V (X:= { X with dfs:=ds}) hA hret hs hr hrel
   exact⟨_,hrun,hR _ _ _ hq hrp hr.cls.fx0⟩
  show∃v,(results fn a.tmps).run X.P W=.ok v W∧Rr (.returned v) W;cases hres:a1G X sy fn.results.toList with
  |none=>rw[hres]at hk;exact hk.elim
  |some l=>
   rw[hres]at hk;rw[←b6L (ds:=ds)]at hres;obtain⟨l',h1,h2⟩:=a4q (X:= { X with dfs:=ds}) (w0:=w0) (bor:=bor) hs hres
   have hrun:=a2s (X:=cx { X with dfs:=ds} w0 bor) hP.tt hr h1
   match l,l',h2,hk,hrun with
   |[s],[s'],h2,hk,hrun=>exact main hk h2.1 hrun
   |[],[],h2,hk,hrun=>exact main (s:=.tup []) hk (by simp only[j5];exact .inl ⟨[],rfl,trivial⟩) (by simpa[den,a9Z,cx]using hrun)
   |x::y::l,x'::y'::l',h2,hk,hrun=>exact main (s:=.tup (x'::y'::l')) hk (by simp only[j5];exact .inl ⟨_,rfl,h2⟩) (by simpa[den,a9Z,cx]using hrun)
   |[],_::_,h2,_,_=>simp[j9]at h2
   |[_],[],h2,_,_=>simp[j9]at h2
   |[_],_::_::_,h2,_,_=>simp[j9]at h2
   |_::_::_,[],h2,_,_=>simp[j9]at h2
   |_::_::_,[_],h2,_,_=>simp[j9]at h2
 |D::l,st,W,hs,hr,hn,hl=>by
  obtain⟨h1,h2⟩:=hl D C7;rw[a4i]at hn;refine⟨by simp,.inl ⟨D,_,rfl,run_takeDeferred h2,?_⟩⟩;obtain⟨g1,g2⟩:=turn hs hr (grownBy_putObj' W D (.deferred none)) fun r e=>by cases e;exact⟨h1,_,h2,rfl⟩
  refine b8n hA hP hk hR l _ _ g1 g2 hn.2 fun D' hD'=>⟨(hl D' (F6 _ hD')).1,?_⟩
  have hne:D'≠D:=fun e=>hn.1 (by rw[←e];exact hD')
  rw[b6d (by first|exact hne|exact hne.symm)]
  exact(hl D' (F6 _ hD')).2
end
theorem d1I{X:Cy}(hP:POK X.P X.tt){f:FuncId}{fn:Func}{c:Code}(args:List D){Qr:D→Prop}(hf:X.P.funcs[f]?=some fn)(hb:fn.body=some c)(hn:X.nt=fn.ntmps)(hl:args.length≤fn.ntmps)
 (h:a9x X c ⟨a1Y 0 args,[],0⟩ (c3z X fn.results.toList Qr)) (hg:fn.ntmps≤L3:=by exact J6 rfl):p0 X.P f args Qr:=by
 intro ok w vl hrep hok hgi;have hA:=AG.nil ok hgi;refine(callsIn_wide (n:=2)).1 (callsIn_of_wp_marks hf hb trivial (wpIn_wide.2 (c8n (A:=fun b=>b<w.heap.size→ok b) (w0:=w) (bor:=[]) hA hP c ⟨a4O 0 (vs vl),[],0,w,w.heap.size,[]⟩ ⟨a1Y 0 args,[],0⟩ _ _ [] _ _ h ?_ ?_ fun e st' sy' a' w' ds' hp hk hs' hlv hm=>?_)) rfl)
 ·refine⟨fun d x hx=>?_,fun k e he=>by simp[m7]at he,rfl,fun j _=>a3Q,fun _ _=>rfl⟩;obtain⟨_,h2⟩:=a2D hx;obtain⟨y,h3,h4⟩:=hrep.get h2;right;refine⟨.v y,a5H (L0 _) ?_,Rep.rel _ _ (Rep.mono (fun b hb=>⟨⟨⟨.inl (hok b hb),fun _=>hb⟩,hok b hb,fun c hc=>by simp[bs]at hc⟩,rfl⟩) _ _ h4)⟩;rw[a9g,h3];rfl
 ·refine⟨by simp[cx,hn,←hrep.length];omega,fun d s hs=>?_,rfl,Cls.nil (cx { X with dfs:=[]} w []) 0,y6 _,by simp⟩
  obtain⟨_,h2⟩:=a2N (n:=0) hs;simp only[a6l]at h2;rw[a9g]at h2;cases hv:vl[d]? with
  |none=>rw[hv]at h2;cases h2
  |some y=>
   rw[hv]at h2;cases h2;right;have hlt:=(P3.1 hv).1;rw[N1,k9 (by have:=hrep.length;omega),a6S (by simpa using hlt)]
   simpa[den]using hv
 ·obtain⟨l,rfl,hnd,hD⟩:=hm
  have fin:(match a1G X sy' fn.results.toList with
   |some [s]=>a2Q sy' s Qr
   |some l=>a2Q sy' (.tup l) Qr
   |none=>False)→LeavesInM Fence.wide 2 X.P fn a'.tmps (fun e w'=>∃v r,e=.returned v∧Qr r∧Rep (fun b=>ok b∨(w.heap.size≤b∧b<w'.heap.size)) w' r v∧Below w.heap.size w w') a'.defers .returning w':=by
   intro hk;rw[show a'.defers=l.map a8n from by rw[show a'.defers=_ from hlv.rel.dfs];simp[cx]];refine b8n hA hP hk (fun v r w' hq hrp hfx=>⟨v,r,rfl,hq,Rep.mono (fun b hb=>⟨?_,rfl⟩) _ _ hrp,hfx.below⟩) l st' w' hs' hlv.rel hnd hD;by_cases hlt:b<w.heap.size
   ·exact .inl (hb.1 hlt)
   ·exact .inr ⟨by omega,hb.2⟩
  cases e with
  |normal=>exact fin hk
  |ret=>exact fin hk
  |exit id=>exact hk.elim
  |goto l=>exact hp.elim
  |panic c=>exact hp.elim
  |outgrown=>exact hp.elim
def a9n(ops:Array Oper)(m i:Nat):Bool:=match ops[m]? with
 |some o=>o.after.toList.any fun e=>Region.binds .any e&&Nat.beq e.on i
 |none=>false
def b9Z(ops:Array Oper):Bool:=(List.range ops.size).all fun m=>match ops[m]? with
 |some o=>o.after.toList.all fun e=> !Region.binds .any e||Nat.blt e.on m
 |none=>true
def d3B(ops:Array Oper)(j:Nat):Bool:=(List.range j).all fun i=>(List.range (j+1)).any fun m=>Nat.blt i m&&a9n ops m i
def c7w(ops:Array Oper)(j:Nat):Bool:=(List.range ops.size).all fun k=>Nat.ble k j||a9n ops k (k-1)
def d0H(ops:Array Oper)(j:Nat):Bool:=(List.range j).all fun i=>match ops[i]? with
 |some o=>match o.guard with|some (g,_)=>Nat.blt g j|none=>true
 |none=>true
def a9z(ops:Array Oper)(j:Nat):Bool:=b9Z ops&&(d3B ops j&&(c7w ops j&&(d0H ops j&&Nat.blt j ops.size)))
theorem b3f{ops:Array Oper}{m i:Nat}:a9n ops m i=true↔∃o e,ops[m]?=some o∧e∈o.after.toList∧Region.binds .any e=true∧e.on=i:=by
 unfold a9n;constructor
 ·intro h;split at h
  ·rename_i o ho;obtain⟨e,h1,h2⟩:=List.any_eq_true.1 h;simp only[D7]at h2;exact⟨o,e,ho,h1,h2.1,z7 h2.2⟩
  ·cases h
 ·rintro⟨o,e,ho,h1,h2,h3⟩;rw[ho];exact List.any_eq_true.2 ⟨e,h1,by simp[h2,h3]⟩
theorem c0H{ops:Array Oper}(h:b9Z ops=true){m i:Nat}(hb:a9n ops m i=true):i<m∧m<ops.size:=by
 obtain⟨o,e,ho,h1,h2,h3⟩:=b3f.1 hb;have hm:m<ops.size:=(Z8.1 ho).1;have h4:=V6.1 h m (a5U.2 hm);rw[ho]at h4;have h5:=V6.1 h4 e h1;simp[h2]at h5;exact⟨by omega,hm⟩
theorem a4R{ops:Array Oper}{listed:Array Bool}(hsz:listed.size=ops.size){i:Nat}:i∈Region.ready .any ops listed↔i<ops.size∧listed[i]?=some false∧∀k,a9n ops i k=true→listed[k]?=some true:=by
 unfold Region.ready;rw[a9b,a5U];constructor
 ·rintro⟨h1,h2⟩;simp only[D7]at h2;have hl:i<listed.size:=by omega
  refine⟨h1,by simpa[Array.getD,hl]using h2.1,fun k hk=>?_⟩
  obtain⟨o,e,ho,g1,g2,g3⟩:=b3f.1 hk;rw[ho]at h2;have:=h2.2;simp only[a6T,Option.getD_some]at this;rw[←Array.all_toList]at this;have:=V6.1 this e g1;simp only[g2,a2R,Bool.false_or,g3]at this;by_cases hkl:k<listed.size
  ·simpa[Array.getD,hkl]using this
  ·simp[Array.getD,hkl]at this
 ·rintro⟨h1,h2,h3⟩;refine⟨h1,?_⟩;have hl:i<listed.size:=by omega
  rw[a4t hl]at h2;simp only[D7];refine⟨by simp[Array.getD,hl];simpa using h2,?_⟩
  rw[a4t h1];simp only[a6T,Option.getD_some];rw[←Array.all_toList];refine V6.2 fun e he=>?_
  cases hb:Region.binds .any e with
  |false=>rfl
  |true=>
   have:=h3 e.on (b3f.2 ⟨_,e,a4t h1,he,hb,rfl⟩);obtain⟨hk,hv⟩:=Z8.1 this;simp[Array.getD,hk,hv]
def c7j(ops:Array Oper)(listed:Array Bool):Prop:=∀m i,listed[m]?=some true→a9n ops m i=true→listed[i]?=some true
theorem c7j.set{ops:Array Oper}{listed:Array Bool}(hsz:listed.size=ops.size)(h:c7j ops listed){i:Nat}(hi:i∈Region.ready .any ops listed):c7j ops (listed.setIfInBounds i true):=by
 obtain⟨h1,_,h3⟩:=(a4R hsz).1 hi;intro m k hm hk;by_cases hki:i=k
 ·subst hki;simp[c0Q,hsz,h1]
 ·rw[a4r hki];by_cases hmi:i=m
  ·subst hmi;exact h3 k hk
  ·rw[a4r hmi]at hm;exact h m k hm hk
theorem b4u{ops:Array Oper}(hb:b9Z ops=true){listed:Array Bool}(hsz:listed.size=ops.size)(h:Region.ready .any ops listed=[]):∀i,i<ops.size→listed[i]?=some true:=by
 intro i
 induction i using Nat.strongRecOn with
 |ind i ih=>
  intro hi;have hl:i<listed.size:=by omega
  rw[a4t hl];cases hv:listed[i]with
  |true=>rfl
  |false=>
   exfalso
   have:i∈Region.ready .any ops listed:=(a4R hsz).2 ⟨hi,by rw[a4t hl,hv],fun k hk=>by
    obtain⟨hlt,_⟩:=c0H hb hk;exact ih k hlt (by omega)⟩
   rw[h]at this;cases this
section
variable {P : Program}{n : Nat}{ops : Array Oper}{Q : Exit → Act → World → Prop}
theorem b5m(hb:b9Z ops=true){j:Nat}(hp:c7w ops j=true):∀(r m fuel:Nat) (listed:Array Bool) (a:Act) (w:World),m+r=ops.size→j<m→listed.size=ops.size→(∀i,i<m→listed[i]?=some true)→(∀i,m≤i→i<ops.size→listed[i]?=some false)→r≤fuel→
 wpListIn Fence.wide n P ops Q (ops.toList.drop m) a w→wpAnyIn Fence.wide n P .any ops Q fuel listed a w
 |0,m,fuel,listed,a,w,hm,hj,hsz,h1,h2,hf,h=>by
  have hnil:Region.ready .any ops listed=[]:=List.eq_nil_iff_forall_not_mem.2 fun i hi=>by
   obtain⟨g1,g2,_⟩:=(a4R hsz).1 hi;rw[h1 i (by omega)]at g2;cases g2
  rw[List.drop_of_length_le (by simp;omega)]at h;cases fuel with
  |zero=>exact⟨hnil,h⟩
  |succ fuel=>exact⟨fun _=>h,fun i hi=>by rw[hnil]at hi;cases hi⟩
 |r+1,m,0,listed,a,w,hm,hj,hsz,h1,h2,hf,h=>by omega
 |r+1,m,fuel+1,listed,a,w,hm,hj,hsz,h1,h2,hf,h=>by
  have hlt:m<ops.size:=by omega
  have hrd:∀i,i∈Region.ready .any ops listed→i=m:=by
   intro i hi;obtain⟨g1,g2,g3⟩:=(a4R hsz).1 hi;rcases b0A i m with h|h|h
   ·rw[h1 i h]at g2;cases g2
   ·exact h
   ·exfalso;have hk:=V6.1 hp i (a5U.2 g1);have hnb:Nat.ble i j=false:=by cases hx:Nat.ble i j with|false=>rfl|true=>have:=J6 hx;omega
    rw[hnb,Bool.false_or]at hk;have:=g3 _ hk;rw[h2 (i-1) (by omega) (by omega)]at this;cases this
  refine⟨fun hnil=>?_,fun i hi=>?_⟩
  ·have:=b4u hb hsz hnil m hlt;rw[h2 m (y6 _) hlt]at this;cases this
  ·obtain rfl:=hrd i hi
   have hd:ops.toList.drop i=ops[i]::ops.toList.drop (i+1):=by
    rw[b6l (by simpa using hlt)];simp
   rw[hd]at h;simp only[wpListIn]at h;unfold wpOpIn;rw[a4t hlt];simp only
   have goOn:∀a w,wpListIn Fence.wide n P ops Q (ops.toList.drop (i+1)) a w→wpAnyIn Fence.wide n P .any ops Q fuel (listed.setIfInBounds i true) a w:=by
    intro a w h;refine b5m hb hp r (i+1) fuel _ a w (by omega) (by omega) (by simpa using hsz) (fun k hk=>?_) (fun k hk hk2=>?_) (by omega) h
    ·by_cases e:i=k
     ·subst e;simp[c0Q,hsz,hlt]
     ·rw[a4r e];exact h1 k (by omega)
    ·rw[a4r (by omega)];exact h2 k (by omega) hk2
   split at h
   ·rename_i hw;rw[k9 hw];exact Oper.wpIn_mono goOn h
   ·rename_i hw;rw[j6 hw];exact⟨h.1,goOn _ _ h.2⟩
theorem d0A{j:Nat}(hc:a9z ops j=true){K:Act→World→Prop}(hK:∀a w,K a w→wpListIn Fence.wide n P ops Q (ops.toList.drop j) a w):
 ∀(fuel fuel2:Nat) (ls listed:Array Bool) (a:Act) (w:World),ls.size=j→listed.size=ops.size→(∀i,i<j→listed[i]?=ls[i]?)→(∀i,j≤i→i<ops.size→listed[i]?=some false)→c7j ops listed→fuel+(ops.size-j)≤fuel2→
 wpAnyIn Fence.wide n P .any (ops.extract 0 j) (fun e a w=>e=.normal∧K a w) fuel ls a w→wpAnyIn Fence.wide n P .any ops Q fuel2 listed a w:=by
 simp only[a9z,D7]at hc;obtain⟨hb,hpre,hpost,hgd,hjs⟩:=hc;have hjs:j<ops.size:=a4p.mp hjs|>fun h=>h
 have hget:∀i,i<j→(ops.extract 0 j)[i]?=ops[i]?:=fun i hi=>by
  rw[Array.getElem?_extract];simp;omega
 have hwt:∀i k,i<j→a9n (ops.extract 0 j) i k=a9n ops i k:=fun i k hi=>by unfold a9n;rw[hget i hi]
 have hsz':(ops.extract 0 j).size=j:=by simp;omega
 --when j is ready,all ahead of it are listed
 have hall:∀(listed:Array Bool),listed.size=ops.size→c7j ops listed→((∀k,a9n ops j k=true→listed[k]?=some true))→∀i,i<j→listed[i]?=some true:=by
  intro listed hsz hd hr i
  induction hr':j-i using Nat.strongRecOn generalizing i with
  |ind r ih=>
   intro hi;have hx:=V6.1 hpre i (a5U.2 hi);obtain⟨m,hm,hy⟩:=List.any_eq_true.1 hx;simp only[D7,a4p,a5U]at hy hm;by_cases e:m=j
   ·subst e;exact hr i hy.2
   ·exact hd m i (ih (j-m) (by omega) m rfl (by omega)) hy.2
 --none behind j is ready as long as j is not listed
 have hnot:∀(listed:Array Bool),listed.size=ops.size→(∀i,j≤i→i<ops.size→listed[i]?=some false)→∀i,i∈Region.ready .any ops listed→i≤j:=by
  intro listed hsz h2 i hi;obtain⟨g1,g2,g3⟩:=(a4R hsz).1 hi;apply Nat.le_of_not_lt;intro hlt;have hk:=V6.1 hpost i (a5U.2 g1);have hnb:Nat.ble i j=false:=by cases hx:Nat.ble i j with|false=>rfl|true=>have:=J6 hx;omega
  rw[hnb,Bool.false_or]at hk;have:=g3 _ hk;rw[h2 (i-1) (by omega) (by omega)]at this;cases this
 intro fuel
 induction fuel with
 |zero=>
  intro fuel2 ls listed a w hls hsz hsame hfalse hdown hf h;obtain⟨hnil,_,hk⟩:=h
  have hl:=b4u (ops:=ops.extract 0 j) (by
   refine V6.2 fun m hm=>?_
   rw[a5U,hsz']at hm;rw[hget m hm];exact V6.1 hb m (a5U.2 (by omega))) (by omega) hnil
  have h1:∀i,i<j→listed[i]?=some true:=fun i hi=>by rw[hsame i hi];exact hl i (by omega)
  cases fuel2 with
  |zero=>omega
  |succ fuel2=>
   refine⟨fun hn=>?_,fun i hi=>?_⟩
   ·have:=b4u hb hsz hn j hjs;rw[hfalse j (y6 _) hjs]at this;cases this
   ·have hij:=hnot listed hsz hfalse i hi;obtain⟨g1,g2,g3⟩:=(a4R hsz).1 hi
    have hie:i=j:=by
     rcases a4C i j with h|h
     ·rw[h1 i h]at g2;cases g2
     ·omega
    subst hie;have h:=hK a w hk
    have hd:ops.toList.drop i=ops[i]::ops.toList.drop (i+1):=by
     rw[b6l (by simpa using hjs)];simp
    rw[hd]at h;simp only[wpListIn]at h;unfold wpOpIn;rw[a4t hjs];simp only
    have goOn:∀a w,wpListIn Fence.wide n P ops Q (ops.toList.drop (i+1)) a w→wpAnyIn Fence.wide n P .any ops Q fuel2 (listed.setIfInBounds i true) a w:=by
     intro a w h;refine b5m hb hpost (ops.size-(i+1)) (i+1) fuel2 _ a w (by omega) (by omega) (by simpa using hsz) (fun k hk=>?_) (fun k hk hk2=>?_) (by omega) h
     ·by_cases e:i=k
      ·subst e;simp[c0Q,hsz,hjs]
      ·rw[a4r e];exact h1 k (by omega)
     ·rw[a4r (by omega)];exact hfalse k (by omega) hk2
    split at h
    ·rename_i hw;rw[k9 hw];exact Oper.wpIn_mono goOn h
    ·rename_i hw;rw[j6 hw];exact⟨h.1,goOn _ _ h.2⟩
 |succ fuel ih=>
  intro fuel2 ls listed a w hls hsz hsame hfalse hdown hf h;obtain⟨h0,h1⟩:=h;cases fuel2 with
  |zero=>omega
  |succ fuel2=>
   refine⟨fun hn=>?_,fun i hi=>?_⟩
   ·have:=b4u hb hsz hn j hjs;rw[hfalse j (y6 _) hjs]at this;cases this
   ·have hij:=hnot listed hsz hfalse i hi;obtain⟨g1,g2,g3⟩:=(a4R hsz).1 hi;rcases a4C i j with hlt|hge
    ·--ahead of j
     have hi':i∈Region.ready .any (ops.extract 0 j) ls:=(a4R (by omega)).2 ⟨by omega,by rw[←hsame i hlt];exact g2,fun k hk=>by
      rw[hwt i k hlt]at hk;have hkl:=(c0H hb hk).1;rw[←hsame k (by omega)];exact g3 k hk⟩
     have hop:=h1 i hi';unfold wpOpIn at hop⊢;rw[hget i hlt,a4t g1]at hop;rw[a4t g1];simp only at hop⊢
     have hyl:Region.wanted ops[i] (yielded (ops.extract 0 j) a.tmps)=Region.wanted ops[i] (yielded ops a.tmps):=by
      have hx:=V6.1 hgd i (a5U.2 hlt);rw[a4t g1]at hx;simp only at hx;unfold Region.wanted;cases hg:ops[i].guard with
      |none=>rfl
      |some p=>
       obtain⟨g,b⟩:=p;rw[hg]at hx;simp only[a4p]at hx;simp only[yielded,hget g hx]
     rw[hyl]at hop
     have goOn:∀a w,wpAnyIn Fence.wide n P .any (ops.extract 0 j) (fun e a w=>e=.normal∧K a w) fuel (ls.setIfInBounds i true) a w→wpAnyIn Fence.wide n P .any ops Q fuel2 (listed.setIfInBounds i true) a w:=by
      intro a w h;refine ih fuel2 _ _ a w (by simpa using hls) (by simpa using hsz) (fun k hk=>?_) (fun k hk hk2=>?_) (hdown.set hsz hi) (by omega) h
      ·by_cases e:i=k
       ·subst e;simp[c0Q,hsz,g1,hls,hlt]
       ·rw[a4r e,a4r e];exact hsame k hk
      ·rw[a4r (by omega)];exact hfalse k hk hk2
     split at hop
     ·rename_i hw;rw[k9 hw];have h2:=Oper.wpIn_mono goOn hop;unfold Oper.wpIn at h2⊢;refine⟨h2.1,?_⟩;have h3:=h2.2;generalize (ops[i].semAt Fence.wide.round a.eval).run P w=r at*;cases r with
      |ok x w'=>
       cases x with
       |value v=>exact h3
       |skip=>exact h3
       |defer d=>exact h3
       |enter f args=>
        refine⟨h3.1,h3.2.mono fun e w'' he=>?_⟩;cases e with
        |returned v=>exact he
        |panicked c=>obtain⟨he,_⟩:=he;cases he
        |outgrown=>obtain⟨a,w,he,_⟩:=he;cases he
       |row row args=>exact h3
       |round l f tmps assign body=>
        refine⟨h3.1,h3.2.mono fun e w'' he=>?_⟩;cases e with
        |returned v=>exact he
        |panicked c=>obtain⟨he,_⟩:=he;cases he
        |outgrown=>obtain⟨a,w,he,_⟩:=he;cases he
       |_=>exact h3.elim
      |halt hl w'=>
       cases hl with
       |panic v=>obtain⟨he,_⟩:=h3;cases he
       |_=>exact h3.elim
     ·rename_i hw;rw[j6 hw];exact⟨hop.1,goOn _ _ hop.2⟩
    ·--j itself:all ahead of it are listed
     obtain rfl:i=j:=by omega
     have hl:=hall listed hsz hdown g3
     have hnil:Region.ready .any (ops.extract 0 i) ls=[]:=List.eq_nil_iff_forall_not_mem.2 fun k hk=>by
      obtain⟨k1,k2,_⟩:=(a4R (by omega)).1 hk;rw[←hsame k (by omega),hl k (by omega)]at k2;cases k2
     obtain⟨_,hk⟩:=h0 hnil;have h:=hK a w hk
     have hd:ops.toList.drop i=ops[i]::ops.toList.drop (i+1):=by
      rw[b6l (by simpa using hjs)];simp
     rw[hd]at h;simp only[wpListIn]at h;unfold wpOpIn;rw[a4t hjs];simp only
     have goOn:∀a w,wpListIn Fence.wide n P ops Q (ops.toList.drop (i+1)) a w→wpAnyIn Fence.wide n P .any ops Q fuel2 (listed.setIfInBounds i true) a w:=by
      intro a w h;refine b5m hb hpost (ops.size-(i+1)) (i+1) fuel2 _ a w (by omega) (by omega) (by simpa using hsz) (fun k hk=>?_) (fun k hk hk2=>?_) (by omega) h
      ·by_cases e:i=k
       ·subst e;simp[c0Q,hsz,hjs]
       ·rw[a4r e];exact hl k (by omega)
      ·rw[a4r (by omega)];exact hfalse k (by omega) hk2
     split at h
     ·rename_i hw;rw[k9 hw];exact Oper.wpIn_mono goOn h
     ·rename_i hw;rw[j6 hw];exact⟨h.1,goOn _ _ h.2⟩
end
def b7d:List (Nat×D)→List (Nat×D)
 |[]=>[]
 |(d,x)::T=>(d,match a0T x,Nat.blt d 1000000 with|true,true=>x|_,_=>.bad)::b7d T
def c2R:List (Nat×D)→List (Nat×D)
 |[]=>[]
 |(d,x)::T=>(d,match x,Nat.blt d 1000000 with|.v y,true=>.v y|_,_=>.bad)::c2R T
def a7A(st:Sy)(o:Oper):Option (List Operand):=match o.op with
 |.call c=>match c.callee with
  |.value f=>match evY st f with
   |some (.v (.func (.yield _) _ _))=>some c.args.toList
   |_=>none
  |_=>none
 |_=>none
def b4I(st:Sy)(o:Oper):Option D:=match o.op with
 |.call c=>match c.callee with
  |.value f=>evY st f
  |_=>none
 |_=>none
abbrev Pre:=Option (List (List D))
structure b2w(X:Cy)(l:Nat)(xs:List (List D))(st:Sy)(o:Oper)(args:List Operand)(p:Pre)(K:Sy→Pre→Prop):Prop where
 ex:∃pre x x',b4I st o=some (.v (.func (.yield l) #[] #[]))∧p=some pre∧b0S st args=some x∧a2Q st (.tup x) (fun y=>y=.tup x')∧pre++ [x']<+:xs∧
  O5 X ⟨b7d st.T,[],st.nk⟩ o.dst (.v (.bool true)) (fun st=>K st (some (pre++ [x'])))∧O5 X ⟨c2R st.T,[],st.nk⟩ o.dst (.v (.bool false)) fun st=>K st none
structure a6M(X:Cy)(l:Nat)(xs:List (List D))(st:Sy)(o:Oper)(args:List Operand)(p:Pre)(K:Sy→Pre→Prop):Prop where
 ex:∃ks st0,a5f ks st []=some (st0,[])∧b2w X l xs st0 o args p K
def c9D(X:Cy)(ops:List Oper)(o:Oper)(st:Sy)(K:Sy→Prop):Prop:=
 a3M ops o.guard st (fun st=>b3y X st o K) (fun st=>O5 X st o.dst .und K)
theorem d0x(X:Cy)(ops:List Oper)(o:Oper)(st:Sy)(K:Sy→Prop):c9D X ops o st K=c0a X ops [o] st K:=rfl
def c1U(X:Cy)(l:Nat)(xs:List (List D))(ops:List Oper):List Oper→Sy→Pre→(Sy→Pre→Prop)→Prop
 |[],st,p,K=>K st p
 |o::rest,st,p,K=>match a7A st o with
  |some args=>a3M ops o.guard st (fun st=>a6M X l xs st o args p fun st p=>c1U X l xs ops rest st p K) (fun st=>O5 X st o.dst .und fun st=>c1U X l xs ops rest st p K)
  |none=>c9D X ops o st fun st=>c1U X l xs ops rest st p K
def c9q:List (Nat×Nat)→Nat→Option Nat
 |[],_=>none
 |(i,j)::l,k=>match Nat.beq i k with|true=>some j|false=>c9q l k
structure b3N(body:Sy→Pre→(Exit→Sy→Pre→Prop)→Prop)(st:Sy)(p:Pre)(K:Exit→Sy→Pre→Prop):Prop where
 ex:∃(α:Type) (f:α→Sy) (pf:α→List (List D)) (inv:α→Prop) (μ:α→Nat),(∃x0,I1 st (f x0)∧p=some (pf x0)∧inv x0)∧∀x,inv x→body (f x) (some (pf x)) fun e st2 p2=>match e with
  |.normal=>∃y,I1 st2 (f y)∧p2=some (pf y)∧inv y∧μ y<μ x
  |e=>K e st2 p2
def a7u(X:Cy)(l:Nat)(xs:List (List D))(yl:List (Nat×Nat)):Code→Sy→Pre→(Exit→Sy→Pre→Prop)→Prop
 |.skip,st,p,K=>K .normal st p
 |.region id ops draw,st,p,K=>match draw with
  |false=>c1U X l xs ops.toList ops.toList st p (K .normal)
  |true=>match c0K X.pl id with
   |some pl=>match c9q yl id with
    |some j=>a9z ops j=true∧a7C X.tt X.nt (ops.toList.take j).toArray pl=true∧(match st with|⟨T,H,nk⟩=>a8r X (ops.toList.take j) pl ⟨b2d (ops.toList.take j) T,H,nk⟩ [] fun st=>c1U X l xs ops.toList (ops.toList.drop j) st p (K .normal))
    |none=>S0 X (.region id ops true) st fun e st=>K e st p
   |none=>False
 |.seq a b,st,p,K=>a7u X l xs yl a st p fun e st' p'=>match e with
  |.normal=>a7u X l xs yl b st' p' K
  |e=>K e st' p'
 |.cond c t e,st,p,K=>match evY st c with
  |some (.v (.bool b))=>VIf b (a7u X l xs yl t st p K) (a7u X l xs yl e st p K)
  |_=>False
 |.block id c,st,p,K=>a7u X l xs yl c st p fun e st' p'=>match e with
  |.exit j=>match Nat.beq j id with
   |true=>K .normal st' p'
   |false=>K (.exit j) st' p'
  |e=>K e st' p'
 |.loop c,st,p,K=>b3N (a7u X l xs yl c) st p K
 |.exit id,st,p,K=>K (.exit id) st p
 |.ret,st,p,K=>K .ret st p
 |.scope c,st,p,K=>a7u X l xs yl c st p K
 |.label _,st,p,K=>K .normal st p
 |_,_,_,_=>False
theorem b8l{d:Nat}{x:D}:∀ {T:List (Nat×D)},u0 (b7d T) d=some x→x=.bad∨(u0 T d=some x∧a0T x=true∧d<L3)
 |[],h=>by cases h
 |(e,y)::T,h=>by
  simp only[b7d,u0]at h⊢;split at h
  ·rename_i hb;simp only[Y9]at h;cases hc:a0T y with
   |true=>
    cases hd:Nat.blt e 1000000 with
    |true=>rw[hc,hd]at h;subst h;exact .inr ⟨rfl,hc,by rw[←z7 hb];simpa[a4p]using hd⟩
    |false=>rw[hc,hd]at h;exact .inl h.symm
   |false=>rw[hc]at h;exact .inl h.symm
  ·rename_i hb;exact b8l h
theorem b7M{d:Nat}{x:D}:∀ {T:List (Nat×D)},u0 (c2R T) d=some x→x=.bad∨(u0 (b7d T) d=some x∧∃y,x=.v y)
 |[],h=>by cases h
 |(e,y)::T,h=>by
  simp only[c2R,b7d,u0]at h⊢;split at h
  ·rename_i hb;simp only[Y9]at h;split at h
   ·rename_i v hd;subst h;exact .inr ⟨by simp[a0T,hd],_,rfl⟩
   ·exact .inl h.symm
  ·exact b7M h
def b9Y(t:Array Value)(d:Nat):SV:=match t[d]? with|some y=>.v y|none=>.bad
def b9D(t:Array Value):List (Nat×D)→List (Nat×SV)
 |[]=>[]
 |(d,_)::T=>(d,b9Y t d)::b9D t T
theorem b7T{t:Array Value}{d:Nat}{s:SV}:∀ {T:List (Nat×D)},A8 (b9D t T) d=some s→s=b9Y t d
 |[],h=>by cases h
 |(e,y)::T,h=>by
  simp only[b9D,A8]at h;split at h
  ·rename_i hb;obtain rfl:=z7 hb;exact(E0 h).symm
  ·exact b7T h
theorem c4Z{t:Array Value}{d:Nat}{x:D}:∀ {T:List (Nat×D)},u0 T d=some x→A8 (b9D t T) d=some (b9Y t d)
 |[],h=>by cases h
 |(e,y)::T,h=>by
  simp only[u0]at h;simp only[b9D,A8];split at h
  ·rename_i hb;obtain rfl:=z7 hb;simp
  ·rename_i hb;rw[hb];exact c4Z h
section
variable {X : Cy}{xs : List (List D)}{ok0 : Nat → Prop}{W0 : World}{l n : Nat}{J : List (List D) → (Nat → Prop) → World → Prop}{Jx : List (List D) → World → Prop}
def d4E(xs:List (List D))(W0:World)(J:List (List D)→(Nat→Prop)→World→Prop)(Jx:List (List D)→World→Prop)(ok:Nat→Prop)(w0:World):Pre→Prop
 |some pre=>W0.heap.size≤w0.heap.size∧∃O:Nat→Prop,(∀b,O b→b<w0.heap.size∧¬ok b)∧J pre O w0
 |none=>∃pre,pre<+:xs∧Jx pre w0
def Seg(X:Cy)(xs:List (List D))(ok0:Nat→Prop)(W0:World)(J:List (List D)→(Nat→Prop)→World→Prop)(Jx:List (List D)→World→Prop)(p:Pre)(sy:Sy)(a:Act)(w:World):Prop:=
 ∃(ok:Nat→Prop) (w0:World) (st:St),(∀b,ok b→b<w0.heap.size∧(ok0 b∨W0.heap.size≤b))∧Sim (fun b=>w0.heap.size≤b∨ok b) st sy∧Rel (cx X w0 []) st a w∧GIW X.P w0∧d4E xs W0 J Jx ok w0 p
theorem b7R{P:Program}{ok:Nat→Prop}{w0:World}(hg:GIW P w0):AG (fun b=>w0.heap.size≤b∨ok b) P w0 []:=⟨fun b h=>(by
 rcases h with h|h
 ·exact .inl h
 ·cases h),hg,fun b h=>by cases h⟩
theorem c8i(hP:POK X.P X.tt){c:Code}{sy:Sy}{p:Pre}{a:Act}{w:World}{K:Exit→Sy→Prop}{Q:Exit→Act→World→Prop}(h:S0 X c sy K)(hs:Seg X xs ok0 W0 J Jx p sy a w)
 (hQ:∀e sy' a' w',plain e→K e sy'→Seg X xs ok0 W0 J Jx p sy' a' w'→Q e a' w'):c.wp X.P Q a w:=by
 obtain⟨ok,w0,st,h1,h3,h4,hgi,h5⟩:=hs;exact a4m (b7R hgi) hP c st sy a w K Q h h3 h4 fun e st' sy' a' w' hp hk hs' hl=>hQ e sy' a' w' hp hk ⟨ok,w0,st',h1,hs',hl.rel,hgi,h5⟩
theorem c4P{P:Program}{o:Oper}{a:Act}{w:World}{K:Act→World→Prop}{Q Q':Exit→Act→World→Prop}(h:o.wp P a w K Q')(hno:¬LetsOut Q')(hpn:∀c a w,¬Q' (.panic c) a w):o.wpIn Fence.wide n P a w K Q:=by
 unfold Oper.wp at h;unfold Oper.wpIn;refine⟨fun _ _=>trivial,?_⟩;rw[Fence.wide_round,Oper.semAt_none];generalize (execOp a.eval o).run P w=r at*;cases r with
 |ok x w'=>
  cases x with
  |value v=>exact h
  |skip=>exact h
  |defer d=>exact h
  |enter f args=>
   refine⟨fun h=>by simp[Fence.wide]at h,(callsIn_wide.2 h).mono fun e w'' he=>?_⟩;cases e with
   |returned v=>exact he
   |panicked c=>exact absurd he (hpn _ _ _)
   |outgrown=>exact absurd he hno
  |row row args=>
   refine⟨fun h=>by simp[Fence.wide]at h,fun c cs _=>?_⟩;obtain⟨v,w',r,s⟩:=h c cs;exact⟨v,w',r,stepsIn_wide.2 s⟩
  |_=>exact h.elim
 |halt hl w'=>
  cases hl with
  |panic v=>exact absurd h (hpn _ _ _)
  |_=>exact h.elim
theorem b2i{P:Program}{md:Region.Mode}{ops:Array Oper}{K:Act→World→Prop}:∀(fuel:Nat) (listed:Array Bool) (a:Act) (w:World),wpAny P md ops (fun e a w=>e=Exit.normal∧K a w) fuel listed a w→wpAnyIn Fence.wide n P md ops (fun e a w=>e=Exit.normal∧K a w) fuel listed a w
 |0,listed,a,w,h=>h
 |fuel+1,listed,a,w,h=>by
  refine⟨h.1,fun i hi=>?_⟩;have h2:=h.2 i hi;unfold wpOp at h2;unfold wpOpIn;cases ho:ops[i]? with
  |none=>rw[ho]at h2;exact b2i fuel _ a w h2
  |some o=>
   rw[ho]at h2;simp only at h2⊢;have hno:¬LetsOut (fun e a w=>e=Exit.normal∧K a w):=by rintro⟨a,w,h,_⟩;cases h
   split at h2
   ·rename_i hw;rw[k9 hw];rcases h2 with h2|⟨_,h2⟩
    ·exact c4P (a4B (fun a w h=>b2i fuel _ a w h) h2) hno (by rintro c a w ⟨h,_⟩;cases h)
    ·exact absurd h2 hno
   ·rename_i hw;rw[j6 hw];exact⟨fun _ _=>trivial,b2i fuel _ _ _ h2⟩
theorem b3D{w0 w:World}(h:Fx [] w0 w):w0.grownBy w none:=⟨h.os,h.tape,h.output,h.size,fun k hk _=>h.block k hk (by simp)⟩
theorem b3e{ok:Nat→Prop}{w:World}{a:Act}{T:List (Nat×D)}{nk:Nat}(hsz:a.tmps.size=X.nt∧X.nt≤L3)(hd:a.defers=X.dfs)(hok:∀b,ok b→b<w.heap.size)(hT:∀d x,u0 T d=some x→x=.bad∨∃y,a.tmps[d]?=some y∧Rep ok w x y):
 Sim (fun b=>w.heap.size≤b∨ok b) ⟨b9D a.tmps T,[],nk,w,w.heap.size,[]⟩ ⟨T,[],nk⟩∧Rel (cx X w []) ⟨b9D a.tmps T,[],nk,w,w.heap.size,[]⟩ a w:=by
 constructor
 ·refine⟨fun d x hx=>?_,fun k e he=>by simp[m7]at he,rfl,fun j _=>?_,fun _ _=>rfl⟩
  ·rcases hT d x hx with h|⟨y,h1,h2⟩
   ·exact .inl h
   ·right;refine⟨_,c4Z hx,?_⟩;have:b9Y a.tmps d=.v y:=by simp[b9Y,h1]
    rw[this];exact Rep.rel _ _ (Rep.mono (fun b hb=>⟨⟨⟨.inl (hok b hb),.inr hb⟩,hok b hb,fun c hc=>by simp[bs]at hc⟩,rfl⟩) _ _ h2)
  ·have:∀T:List (Nat×D),w8 j (b9D a.tmps T)=true:=by
    intro T
    induction T with
    |nil=>rfl
    |cons p T ih=>
     obtain⟨e,y⟩:=p;simp only[b9D,w8];have:ment j (b9Y a.tmps e)=false:=by unfold b9Y;cases a.tmps[e]?<;>rfl
     rw[this];exact ih
   exact this T
 ·refine⟨hsz,fun d s hs=>?_,hd,Cls.nil (cx X w []) nk,y6 _,by simp⟩;have:=b7T hs;subst this;cases h:a.tmps[d]? with
  |none=>left;simp[b9Y,h]
  |some y=>
   have hlt:=(Z8.1 h).1;right;rw[N1,k9 (C5 hlt (hsz.1▸hsz.2))];simp[b9Y,h,den]
def b4G(X:Cy)(xs:List (List D))(ok0:Nat→Prop)(W0:World)(l n:Nat)(J:List (List D)→(Nat→Prop)→World→Prop)(Jx:List (List D)→World→Prop):Prop:=
 ∀pre x vals O W1,J pre O W1→(∀b,O b→b<W1.heap.size)→pre++ [x]<+:xs→l5 (fun b=>(ok0 b∨W0.heap.size≤b)∧b<W1.heap.size∧¬O b) W1 x vals→
  YieldAt Fence.wide n X.P l vals.toArray W1 fun e W'=>
   GIW X.P W'∧((e=.returned (.bool true)∧∃O',J (pre++ [x]) O' W'∧W1.heap.size≤W'.heap.size∧(∀b,O' b→b<W'.heap.size∧(O b∨W1.heap.size≤b))∧∀b,b<W1.heap.size→¬O b→W'.heap[b]?=W1.heap[b]?)∨
   (e=.returned (.bool false)∧Jx (pre++ [x]) W'))
theorem b0J{st:Sy}{o:Oper}{args:List Operand}(h:a7A st o=some args):∃c f,o.op=.call c∧c.callee=.value f∧c.args.toList=args:=by
 unfold a7A at h;split at h
 ·rename_i c hc;split at h
  ·rename_i f hf;split at h
   ·exact⟨c,f,hc,hf,E0 h⟩
   ·cases h
  ·cases h
 ·cases h
theorem c5D(hP:POK X.P X.tt)(hJ:∀pre O A B,J pre O A→A.grownBy B none→J pre O B)(hY:b4G X xs ok0 W0 l n J Jx){o:Oper}{args:List Operand}{sy:Sy}{p:Pre}{a:Act}{w:World}{K:Sy→Pre→Prop}{K':Act→World→Prop}{Q:Exit→Act→World→Prop}
 (hop:a7A sy o=some args∨∃c f,o.op=.call c∧c.callee=.value f∧c.args.toList=args) (h:b2w X l xs sy o args p K) (hs:Seg X xs ok0 W0 J Jx p sy a w) (hK:∀sy' p' a' w',K sy' p'→Seg X xs ok0 W0 J Jx p' sy' a' w'→K' a' w'):o.wpIn Fence.wide (n+1) X.P a w K' Q:=by
 obtain⟨pre,x,x',hcal,rfl,hx,hret,hpre,ht,hf⟩:=h.ex;obtain⟨ok,w0,st,hok,hsim,hrel,hgi,hsz,O,hO,hJ0⟩:=hs
 obtain⟨c,f,hopc,hcf,hca⟩:∃c f,o.op=.call c∧c.callee=.value f∧c.args.toList=args:=by
  rcases hop with h|h
  ·exact b0J h
  ·exact h
 simp only[b4I,hopc,hcf]at hcal;obtain⟨sf,e1,e2,_⟩:=o0 hsim hcal
 have hfv:a.eval f=.func (.yield l) #[] #[]:=by
  have:=e2.sc;subst this;simpa[den]using (hrel.ev f _ e1).2
 obtain⟨sx,e3,e4⟩:=a0d hsim hx;have hargs:=(a6R hrel.ev e3).1;have hfx0:=hrel.cls.fx0;have hg:=b3D (show Fx [] w0 w from hfx0);have hJ1:=hJ pre O w0 w hJ0 hg
 --what is handed on
 obtain⟨r',hr',hrep⟩:=b1V (b7R (ok:=ok) (w0:=w0) hgi) hret hsim hrel (show j5 (okS _ st) st.w (B0 st) (.tup x) (.tup sx) from by simp only[j5];exact .inl ⟨sx,rfl,e4⟩);subst hr';simp only[Rep]at hrep;obtain⟨av,hav,hrepl⟩:=hrep;have hval:av=(o6 st.H sx).toArray:=by simpa[den]using hav.symm
 have hO1:∀b,O b→b<w.heap.size:=fun b hb=>C5 (hO b hb).1 hfx0.size
 have hnO:∀b,(w0.heap.size≤b∨ok b)→¬O b:=fun b hb hOb=>by
  rcases hb with h|h
  ·have:=(hO b hOb).1;omega
  ·exact(hO b hOb).2 h
 obtain⟨fn,tm,asn,body,hrun,hround⟩:=hY pre x' av.toList O w hJ1 hO1 hpre (l5.mono (fun b hb=>⟨⟨by
  rcases hb.1 with h|h
  ·exact .inr (z6 hsz h)
  ·exact(hok b h).2,hb.2,hnO b hb.1⟩,rfl⟩) _ _ hrepl)
 unfold Oper.wpIn;refine⟨fun _ _=>trivial,?_⟩;rw[Fence.wide_round,Oper.semAt_none]
 have harr:c.args.map a.eval=av:=by
  rw[hval];apply N8;rw[←hargs,←hca];simp
 have hexec:(execOp a.eval o).run X.P w=.ok (.round l fn tm asn body) w:=by
  simp only[execOp,hopc,resolve,hcf,y9,hfv,Deferred.ofValue,O7,I9,invoke,harr];simpa using hrun
 rw[hexec];refine⟨fun h=>by simp[Fence.wide]at h,hround.mono fun e w' he=>?_⟩
 --the state behind the round
 have hkeep:∀d y,u0 (b7d sy.T) d=some y→y=.bad∨∃v,a.tmps[d]?=some v∧Rep (fun b=>(w0.heap.size≤b∨ok b)∧b<w.heap.size) w y v:=by
  intro d y hd;rcases b8l hd with h|⟨h,hc,hlt⟩
  ·exact .inl h
  ·rcases hsim.T d y h with h|⟨s,g1,g2⟩
   ·exact .inl h
   ·rcases hrel.T d s g1 with g|g
    ·subst g;left;cases y<;>simp_all[j5,a0T,a4Y]
    ·right;rw[N1,k9 hlt]at g;refine⟨_,g,?_⟩;have:=a5b (H:=st.H) _ _ g2 hc;exact Rep.mono (fun b hb=>⟨⟨hb.1.2,C5 hb.2.1 hrel.cls.fx.size⟩,hrel.cls.fx.block b hb.2.1 hb.2.2⟩) _ _ this
 have hnk:sy.nk=st.nk:=hsim.nk;obtain⟨hgi',he⟩:=he;rcases he with⟨rfl,O',hJ',hle,hO',hblk⟩|⟨rfl,hJ'⟩
 ·obtain⟨g1,g2⟩:=b3e (X:=X) (ok:=fun b=>(w0.heap.size≤b∨ok b)∧b<w.heap.size) (w:=w') (a:=a) (T:=b7d sy.T) (nk:=sy.nk) hrel.size hrel.dfs (fun b hb=>C5 hb.2 hle) fun d y hd=>by
   rcases hkeep d y hd with h|⟨v,h1,h2⟩
   ·exact .inl h
   ·exact .inr ⟨v,h1,Rep.mono (fun b hb=>⟨hb,hblk b hb.2 (hnO b hb.1)⟩) _ _ h2⟩
  have hput:=D3 (w0:=w') (bor:=[]) (s:=.v (.bool true)) ht g1 (by simp only[j5];exact⟨trivial,rfl⟩);obtain⟨st1,⟨sy1,k1,k2⟩,k3,_⟩:=a1g g2 hput (v:=.bool true) (.inr (by simp[den]));refine hK sy1 _ _ _ k1 ⟨_,w',st1,fun b hb=>⟨C5 hb.2 hle,?_⟩,k2,k3,hgi',z6 hsz (z6 hfx0.size hle),O',fun b hb=>⟨(hO' b hb).1,fun hx=>?_⟩,hJ'⟩
  ·rcases hb.1 with h|h
   ·exact .inr (z6 hsz h)
   ·exact(hok b h).2
  ·rcases(hO' b hb).2 with h|h
   ·exact hnO b hx.1 h
   ·have:=hx.2;omega
 ·obtain⟨g1,g2⟩:=b3e (X:=X) (ok:=fun _=>False) (w:=w') (a:=a) (T:=c2R sy.T) (nk:=sy.nk) hrel.size hrel.dfs (fun b hb=>hb.elim) fun d y hd=>by
   rcases b7M hd with h|⟨h,x,rfl⟩
   ·exact .inl h
   ·rcases hkeep d _ h with h|⟨v,h1,h2⟩
    ·exact .inl h
    ·exact .inr ⟨v,h1,by simp only[Rep]at h2⊢;exact h2⟩
  have hput:=D3 (w0:=w') (bor:=[]) (s:=.v (.bool false)) hf g1 (by simp only[j5];exact⟨trivial,rfl⟩);obtain⟨st1,⟨sy1,k1,k2⟩,k3,_⟩:=a1g g2 hput (v:=.bool false) (.inr (by simp[den]));exact hK sy1 _ _ _ k1 ⟨_,w',st1,fun b hb=>hb.elim,k2,k3,hgi',_,hpre,hJ'⟩
theorem c9n(hP:POK X.P X.tt)(hJ:∀pre O A B,J pre O A→A.grownBy B none→J pre O B)(hY:b4G X xs ok0 W0 l n J Jx){o:Oper}{args:List Operand}{sy:Sy}{p:Pre}{a:Act}{w:World}{K:Sy→Pre→Prop}{K':Act→World→Prop}{Q:Exit→Act→World→Prop}
 (hop:a7A sy o=some args∨∃c f,o.op=.call c∧c.callee=.value f∧c.args.toList=args) (h:a6M X l xs sy o args p K) (hs:Seg X xs ok0 W0 J Jx p sy a w) (hK:∀sy' p' a' w',K sy' p'→Seg X xs ok0 W0 J Jx p' sy' a' w'→K' a' w'):o.wpIn Fence.wide (n+1) X.P a w K' Q:=by
 obtain⟨ks,sy0,hfz,hz⟩:=h.ex;obtain⟨ok,w0,st,hok,hsim,hrel,hgi,hJ0⟩:=hs;obtain⟨st,hsim,hrel,_⟩:=b9b (b7R (ok:=ok) (w0:=w0) hgi) hfz hsim hrel;refine c5D hP hJ hY (sy:=sy0) (.inr ?_) hz ⟨ok,w0,st,hok,hsim,hrel,hgi,hJ0⟩ hK;rcases hop with h|h
 ·exact b0J h
 ·exact h
end
end Go.Sx
