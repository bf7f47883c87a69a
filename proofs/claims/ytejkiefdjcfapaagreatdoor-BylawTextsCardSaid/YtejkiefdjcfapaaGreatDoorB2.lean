/- The walk over pure data: its definitions, that it is sound, and what may be read at a type. -/
import Derived.Test.YtejkiefdjcfapaaGreatDoorB1
import Derived.Lib.ConvBytes
import Derived.Laws.BytesString
import Derived.MapKept
import Derived.ChangeKeysEq
import Derived.Laws.CopyRow
import Derived.RangeFuncNested
import Derived.RangeFuncBound
import Derived.RangeFuncCalls
import Derived.RangeFuncLeaves
import Derived.TacticsIn
import Derived.OrdersIn
import Derived.Sort.LoopGhostIn
set_option linter.unusedVariables false
set_option linter.unusedSimpArgs false
namespace Go.Sx
open Go Go.RowKit
theorem op_value {P:Program} {o:Oper} {a:Act} {w w':World} {v:Value} {K:Act→World→Prop} {Q:Exit→Act→World→Prop} (h:(execOp a.eval o).run P w= .ok (.value v) w') (hk:K (a.put o.dst v) w'):o.wp P a w K Q:=by
 unfold Oper.wp;rw [h];exact hk
theorem op_skip {P:Program} {o:Oper} {a:Act} {w w':World} {K:Act→World→Prop} {Q:Exit→Act→World→Prop} (h:(execOp a.eval o).run P w= .ok .skip w') (hk:K (a.put o.dst undef) w'):o.wp P a w K Q:=by
 unfold Oper.wp;rw [h];exact hk
theorem foldl_bstr:∀(xs:List Int) (s:ByteArray),xs.foldl (fun r n=>r.push (UInt8.ofNat n.toNat)) s=⟨s.data++(xs.map fun n=>UInt8.ofNat n.toNat).toArray⟩
 | [],s=>by simp
 |x::xs,s=>by
  rw [List.foldl_cons,foldl_bstr xs];simp only [ByteArray.push,List.map_cons,ByteArray.mk.injEq];apply Array.ext';simp
theorem run_bstr {P:Program} (w:World) {ad:Option Addr} {n c:Nat} (xs:List Int) (hn:xs.length=n) (h:n=0∨∃b o,ad=some ⟨b,o,none⟩∧∀j,j<n→w.cell? ⟨b,o+j,none⟩=(xs.map (Value.int .u8))[j]?):
 (Conv.bytesToString (.slice ad n c)).run P w= .ok (.string (bstr xs)) w:=by
 have fin:∀a:Addr,(loadCells a n).run P w= .ok (xs.map (Value.int .u8)).toArray w→(Conv.bytesToString (.slice (some a) n c)).run P w= .ok (.string (bstr xs)) w:=by
  intro a h;rw [run_bytesToString w a n c xs h,foldl_bstr];simp only [bstr,ByteArray.empty,ByteArray.emptyWithCapacity];congr 2;simp;rfl
 rcases h with rfl|⟨b,o,rfl,h⟩
 · have hx:xs= []:=List.eq_nil_of_length_eq_zero hn;subst hx;cases ad with
   |none=>rfl
   |some a=>exact fin a rfl
 · refine fin _ ?_
   have:=run_loadCells_list (P:=P) (w:=w) ⟨b,o,none⟩ (xs.map (Value.int .u8)) (fun j v hj=>by
    rw [add_off,h j (by have:=(List.getElem?_eq_some_iff.1 hj).1;simpa [hn]using this),hj])
   simpa [hn]using this
theorem repL_u8 {ok:Nat→Prop} {w:World}:∀ {xs:List Int} {r:List Value},RepL ok w (xs.map fun x=> .v (.int .u8 x)) r→r=xs.map (Value.int .u8)
 | [], [],_=>rfl
 |x::xs,y::r,h=>by
  simp only [List.map_cons,RepL,Rep]at h;rw [h.1.1,repL_u8 h.2];rfl
 | [],_::_,h=>by simp [RepL]at h
 |_::_, [],h=>by simp [RepL]at h
theorem below_bytes (w:World) (e:TypeId) (s:ByteArray):Below w.heap.size w (Lib.bytesWorld w e s):=
 ⟨rfl,rfl,rfl,by rw [Lib.bytesWorld_size];omega,fun i hi=>Lib.bytesWorld_at_old w e s i hi⟩
section
variable {A : Nat → Prop} {X : Cy} {w0 : World} {bor : List Nat} {st : St} {sy : Sy} {a : Act} {w : World}
theorem xop_val (hr:Rel (cx X w0 bor) st a w) (hs:Sim A st sy) {o:Oper} {Q:Exit→Act→World→Prop} {KY:Sy→Prop} {r:D} {v:Value} {w':World} (hrun:(execOp a.eval o).run X.P w= .ok (.value v) w') (hb:Below w.heap.size w w')
 (hrd:RelD (okS A (now st w')) w' (keyS (now st w')) r (.v v)) (hp:putY X sy o.dst r KY):o.wp X.P a w (LvY A (cx X w0 bor) st.H w KY) Q:=by
 refine op_value hrun ?_;have hput:=putY_sim (w0:=w0) (bor:=bor) hp (hs.past hr.cls hb) hrd;obtain⟨st2,⟨sy2,h1,h2⟩,h3,h4⟩:=put_ok (hr.past hb) hput (v:=v) (.inr rfl);exact⟨st2,sy2,h1,h2,h3,(Fx.refl _ _).of_below hb,fun b hb2=> .inl (by rw [h4]at hb2;exact hb2)⟩
theorem newmp_sim {T:List (Nat×D)} {H:Hy} {nk:Nat} {T':List (Nat×SV)} {H':Hp} {nk':Nat} {w w1:World} {lo lo1:Nat} {iv iv1:List (Nat×Nat)} {b:Nat} {m:MTy}
 (hs:Sim A ⟨T',H',nk',w,lo,iv⟩ ⟨T,H,nk⟩) (hv:w.heap.size≤b) (hfx:Fx (bs H') w w1) (hlo:(lo1=w1.heap.size)∨(lo1=lo∧iv1=iv)):
 Sim A ⟨T',(nk', .mp b [] m)::H',nk'+1,w1,lo1,iv1⟩ ⟨T,(nk, .mp [] m)::H,nk+1⟩:=by
 have hnk:nk=nk':=hs.nk;subst hnk
 have hok:∀c,okS A ⟨T',H',nk,w,lo,iv⟩ c→okS A ⟨T',(nk, .mp b [] m)::H',nk+1,w1,lo1,iv1⟩ c∧w1.heap[c]?=w.heap[c]?:=by
  intro c ⟨h1,h2,h3⟩;refine⟨⟨⟨?_,h1.2⟩,Nat.lt_of_lt_of_le h2 hfx.size,fun x hx=> ?_⟩,hfx.block c h2 h3⟩
  · rcases hlo with rfl|⟨rfl,rfl⟩
    · exact .inl (Nat.lt_of_lt_of_le h2 hfx.size)
    · exact h1.1
  · simp only [bs,bsE,List.mem_append,List.mem_singleton]at hx;rcases hx with hx|hx
    · subst hx;intro e;simp only at h2;omega
    · exact h3 x hx
 have hk:∀q k,keyS ⟨T',H',nk,w,lo,iv⟩ q k→keyS ⟨T',(nk, .mp b [] m)::H',nk+1,w1,lo1,iv1⟩ q k:=by
  intro q k ⟨h1,h2⟩;simp only at h1;refine⟨by simp only;omega,fun hq=> ?_⟩;simp only;rw [findE_cons_ne (by omega)];exact h2 hq
 refine⟨fun d x hx=> ?_,fun k e he=> ?_,rfl,fun j hj=>hs.fT j (by simp only at hj⊢;omega),fun j hj=>freshH_cons rfl (hs.fH j (by simp only at hj⊢;omega))⟩
 · rcases hs.T d x hx with h|⟨s,h1,h2⟩
   · exact .inl h
   · exact .inr ⟨s,h1,RelD.mono hok hk _ _ h2⟩
 · simp only [findY]at he;simp only [findE];cases hb:Nat.beq nk k with
   |true=>
    rw [hb]at he;cases he;exact⟨_,rfl,rfl,rfl⟩
   |false=>
    rw [hb]at he;obtain⟨e',h1,h2⟩:=hs.H k e he;exact⟨e',h1,RelE.mono hok hk h2⟩
theorem make_ok {o:Oper} {Q:Exit→Act→World→Prop} {KY:Sy→Prop} (hr:Rel (cx X w0 bor) st a w) (hs:Sim A st sy) {t:TypeId} (hop:o.op= .makeMap t none) {m:MTy}
 (h:match sy with|⟨T,H,nk⟩=>putY X ⟨T,(nk, .mp [] m)::H,nk+1⟩ o.dst (.row nk 0) KY):o.wp X.P a w (LvY A (cx X w0 bor) st.H w KY) Q:=by
 have hr0:=hr.now;have hs0:=hs.now hr.cls;have hrun:(execOp a.eval o).run X.P w= .ok (.value (.map (some w.heap.size))) (w.alloc (.map #[] 0)):=by simp [execOp,hop,Instr.makeMap,Result.andThen]
 refine op_value hrun ?_;obtain⟨T,H,nk⟩:=sy;obtain⟨T',H',nk',ws,lo,iv⟩:=st;have hnk:nk=nk':=hs.nk;subst hnk;obtain⟨g1,g2⟩:=MapKept.heap_alloc w (.map #[] 0);have hsz:(w.alloc (.map #[] 0)).heap.size=w.heap.size+1:=by simp
 have hrel:=hr0.cons (w':=w.alloc (.map #[] 0)) (e:= .mp w.heap.size [] m) (hs.fT nk (Nat.le_refl _)) (hs.fH nk (Nat.le_refl _)) (by omega) (fun i hi=>g2 i hi) rfl rfl rfl ⟨#[],0,g1,rfl,fun p hp=>by cases hp⟩ (fun b hb=>by simp [bsE]at hb;omega) (by simp [bsE]);have hrel2:=hrel.now;have hfx:Fx (bs H') w (w.alloc (.map #[] 0)):=⟨rfl,rfl,rfl,by omega,fun i hi _=>g2 i hi⟩
 have hsim:Sim A ⟨T',(nk, .mp w.heap.size [] m)::H',nk+1,w.alloc (.map #[] 0),(w.alloc (.map #[] 0)).heap.size, []⟩ ⟨T,(nk, .mp [] m)::H,nk+1⟩:=
  newmp_sim (lo:=w.heap.size) (iv:= []) (w:=w) hs0 (Nat.le_refl _) hfx (.inl rfl)
 have hput:=putY_sim (w0:=w0) (bor:=bor) (s:= .row nk) h hsim (by simp only [RelD];exact⟨trivial,by simp only;omega,fun _=>⟨_,by simp only [findE,Nat.beq_refl];rfl,rfl⟩⟩);obtain⟨st2,⟨sy2,h1,h2⟩,h3,h4⟩:=put_ok hrel2 hput (v:= .map (some w.heap.size)) (.inr (by simp [den,rowVal,now,findE]));refine⟨st2,sy2,h1,h2,h3,hfx,fun b hb2=> ?_⟩;rw [h4]at hb2;simp only [now,bs,bsE,List.mem_append,List.mem_singleton]at hb2;rcases hb2 with hb2|hb2
 · exact .inr (by omega)
 · exact .inl hb2
theorem upd_ok (hP:POK X.P X.tt) {o:Oper} {Q:Exit→Act→World→Prop} {KY:Sy→Prop} (hr:Rel (cx X w0 bor) st a w) (hs:Sim A st sy) {t:TypeId} {mo ko xo:Operand} (hop:o.op= .mapUpdate t mo ko xo) {j z:Nat} {kd:D} {xv:Value} {es:List (Value×Value)} {m:MTy} {kc:List Value}
 (hm:evY sy mo=some (.row j z)) (hk:evY sy ko=some kd) (hx:evY sy xo=some (.v xv)) (hf:findY sy.H j=some (.mp es m)) (hM:MTok X.P X.tt m) (ht:m.t=t) (hpl:plV xv=true) (hkc:keyCells m.ag kd=some kc) (hty:typedCs m.ks kc)
 (h:match sy with|⟨T,H,nk⟩=>putY X ⟨T,updY H j (.mp (updV (mkKey m.ag kc) xv es kc) m),nk⟩ o.dst .und KY):o.wp X.P a w (LvY A (cx X w0 bor) st.H w KY) Q:=by
 have hr0:=hr.now;have hs0:=hs.now hr.cls;obtain⟨s1,e1,r1,_⟩:=evY_sim hs hm;obtain⟨s2,e2,r2,_⟩:=evY_sim hs hk;obtain⟨s3,e3,r3,_⟩:=evY_sim hs hx;simp only [RelD]at r1 r3;obtain⟨rfl,_⟩:=r1;obtain⟨rfl,_⟩:=r3;obtain⟨e',hf',he⟩:=hs.H _ _ hf;cases e' with
 |blk=>exact he.elim
 |row=>exact he.elim
 |mp b es' m'=>
  obtain⟨rfl,rfl⟩:=he;have hat:MapAt w b es m:=by have:=hr.cls.own j _ (findE_mem hf');exact this
  obtain⟨w',hrun,hat',hfx,hsz⟩:=run_mapUpdateM hP.tt hM hat hty hpl;have hd1:=(hr.ev _ _ e1).2;have hd2:=(hr.ev _ _ e2).2;have hd3:=(hr.ev _ _ e3).2;have hden:den st.H (.row j)= .map (some b):=by simp [den,rowVal,hf']
  have hex:(execOp a.eval o).run X.P w= .ok .skip w':=by
   simp only [execOp,hop,hd1,hd2,hd3,hden,keyCells_den hkc r2,←ht,Sem.run_bind];rw [show den st.H (.v xv)=xv from rfl,hrun];rfl
  refine op_skip hex ?_;obtain⟨T,H,nk⟩:=sy;obtain⟨T',H',nk',ws,lo,iv⟩:=st;have hnk:nk=nk':=hs.nk;subst hnk;simp only at hf';obtain⟨H1,H2,hH,hk1,hupd⟩:=findE_cut hf'
  have hdd:∀i,bOf (H1++(j, .mp b (updV (mkKey m.ag kc) xv es kc) m)::H2) i=bOf (H1++(j, .mp b es m)::H2) i∧rowVal (H1++(j, .mp b (updV (mkKey m.ag kc) xv es kc) m)::H2) i=rowVal (H1++(j, .mp b es m)::H2) i:=by
   intro i;simp only [bOf,rowVal,findE_append (e:= .mp b (updV (mkKey m.ag kc) xv es kc) m) (e0:= .mp b es m) hk1];by_cases hj:i=j
   · subst hj;simp [findE_split hk1]
   · simp [hj]
  have hr3:Rel (cx X w0 bor) ⟨T',H1++(j, .mp b (updV (mkKey m.ag kc) xv es kc) m)::H2,nk,w,w.heap.size, []⟩ a w':=by
   have hr2:Rel (cx X w0 bor) ⟨T',H1++(j, .mp b es m)::H2,nk,w,w.heap.size, []⟩ a w:=by
    have:=hr0;unfold Sx.now at this;simp only at this;rw [hH]at this;exact this
   exact hr2.swap rfl hdd hsz (fun i hi=>by
    by_cases hlt:i<w.heap.size
    · exact hfx.block i hlt fun c hc e=>hi (by simp [bsE]at hc⊢;omega)
    · rw [Array.getElem?_eq_none (by omega),Array.getElem?_eq_none (by omega)]) hfx.os hfx.tape hfx.output hat'
  have hr4:=hr3.now
  have s3:Sim A ⟨T',updE H' j (.mp b (updV (mkKey m.ag kc) xv es kc) m),nk,w,w.heap.size, []⟩ ⟨T,updY H j (.mp (updV (mkKey m.ag kc) xv es kc) m),nk⟩:=
   upd_sim (e0:= .mp b es m) hs0 hf' (by exact⟨rfl,rfl⟩) rfl (fun _=>rfl) fun j hj=>rfl
  rw [hupd]at s3;have s4:=s3.now hr3.cls;have hput:=putY_sim (w0:=w0) (bor:=bor) (s:= .v undef) h s4 (by simp only [RelD]);obtain⟨st2,⟨sy2,g1,g2⟩,g3,g4⟩:=put_ok hr4 hput (v:=undef) (.inr rfl);refine⟨st2,sy2,g1,g2,g3,hfx.wide fun c hc=>bs_mem.2 ⟨j,_,findE_mem hf',by simpa [bsE]using hc⟩,fun c hb2=> .inl ?_⟩
  rw [g4]at hb2;have:bs (H1++(j,Ent.mp b (updV (mkKey m.ag kc) xv es kc) m)::H2)=bs H':=by rw [hH];exact bs_swap rfl
  rw [←this];exact hb2
theorem xop_ok (hA:AG A X.P w0 bor) (hP:POK X.P X.tt) {o:Oper} {Q:Exit→Act→World→Prop} {KY:Sy→Prop} (h:xop X sy o.dst o.op KY) (hs:Sim A st sy) (hr:Rel (cx X w0 bor) st a w):o.wp X.P a w (LvY A (cx X w0 bor) st.H w KY) Q:=by
 have hstr:∀ {src dt:TypeId} {x:Operand} {s:SV} {ad:Option Addr} {n c:Nat} {xs:List Int} {e:TypeId},o.op= .convert src dt x→ev st x=some s→den st.H s= .slice ad n c→X.P.underlying src=some (.slice e)→X.P.underlying e=some (.int .u8)→X.P.underlying dt=some .string→xs.length=n→
  (n=0∨∃b o,ad=some ⟨b,o,none⟩∧∀j,j<n→w.cell? ⟨b,o+j,none⟩=(xs.map (Value.int .u8))[j]?)→putY X sy o.dst (.v (.string (bstr xs))) KY→o.wp X.P a w (LvY A (cx X w0 bor) st.H w KY) Q:=by
  intro src dt x s ad n c xs e hop he hden h1 h2 h3 hn hc hp;have hd:=(hr.ev _ _ he).2;rw [hden]at hd;refine xop_val hr hs (v:= .string (bstr xs)) (w':=w) ?_ ⟨rfl,rfl,rfl,Nat.le_refl _,fun _ _=>rfl⟩ (by simp only [RelD];exact⟨trivial,rfl⟩) hp;simp only [execOp,hop,hd,Sem.run_bind,run_convert_bytes_string w src dt e ad n c h1 h2 h3,run_bstr w xs hn hc,Result.andThen_ok,Sem.run_pure]
 unfold xop at h;split at h
 · rename_i t r hop;split at h
   · obtain⟨m,⟨rfl,hm⟩,h⟩:=h;exact make_ok hr hs hop (m:=m) h
   · exact h.elim
 · rename_i t mo ko xo hop;split at h
   · rename_i j z kd xv hm hk hx;split at h
     · rename_i es mt hf;obtain⟨⟨hM,ht,hpl⟩,kc,es',⟨hkc,hty,rfl⟩,h⟩:=h;have h:=setY_elim h;exact upd_ok hP hr hs hop hm hk hx hf hM ht hpl hkc hty (by obtain⟨T,H,nk⟩:=sy;exact h)
     · exact h.elim
   · exact h.elim
 · rename_i src dt x hop;split at h
   · rename_i s hx;obtain⟨⟨e,u,h1,h2,h3⟩,hsz,l,n,⟨rfl,rfl⟩,hp⟩:=h;obtain⟨s1,e1,r1,_⟩:=evY_sim hs hx;simp only [RelD]at r1;obtain⟨rfl,_⟩:=r1;have hd:=(hr.ev _ _ e1).2;refine xop_val hr hs (v:= .slice (some ⟨w.heap.size,0,none⟩) s.size (grownCap w s.size 0 e)) (w':=Lib.bytesWorld w e s) ?_ (below_bytes w e s) ?_ hp
     · rw [show den st.H (.v (.string s))= .string s from rfl]at hd;simp only [execOp,hop,hd,Sem.run_bind,Lib.run_convert_string_bytes w src dt e s h1 h2 h3,Result.andThen_ok,Sem.run_pure]
     · simp only [RelD];refine⟨_,rfl, ?_⟩;simp only [Rep];refine⟨_,_,rfl,grownCap_ge _ _ _ _,by omega,by simp [bytesD],flatD_of fun d hd=>by simp only [bytesD,List.mem_map]at hd;obtain⟨x,_,rfl⟩:=hd;rfl, .inr ⟨w.heap.size,0,s.data.toList.map fun b=> .int .u8 b.toNat,rfl, ?_, ?_,fun j hj=> ?_⟩⟩
       · refine⟨⟨.inl ?_,hA.a _ (.inl hr.cls.fx0.size)⟩, ?_,fun c hc e=> ?_⟩
         · simp only [now];rw [Lib.bytesWorld_size];omega
         · simp only [now];rw [Lib.bytesWorld_size];omega
         · have:=hr.cls.lt_size hc;omega
       · unfold bytesD;generalize s.data.toList=L
         induction L with
         |nil=>trivial
         |cons b L ih=>exact⟨by simp only [Rep];exact⟨trivial,rfl⟩,ih⟩
       · have hj':j<s.size:=by omega
         rw [Nat.zero_add,Lib.bytesWorld_cell w e s j hj'];have:j<s.data.toList.length:=by simpa using hj'
         have h2:j<s.data.size:=by simpa using this
         have h4:s.data[j]?=some s.data[j]:=Array.getElem?_eq_getElem h2;simp [List.getD,h4]
   · rename_i z n l hx;obtain⟨⟨rfl,e,h1,h2,h3⟩,xs,rfl,hp⟩:=h;obtain⟨s1,e1,r1,_⟩:=evY_sim hs hx;simp only [RelD,Rep]at r1;obtain⟨y,rfl,ad,c,rfl,hnc,hmx,hlen,hfl,hmem⟩:=r1;have hn:xs.length=n:=by simpa using hlen
     refine hstr hop e1 rfl h1 h2 h3 hn ?_ hp;rcases hmem with rfl|⟨b,o',ys,rfl,hok,hrep,hcell⟩
     · exact .inl (by omega)
     · refine .inr ⟨b,o',rfl,fun j hj=> ?_⟩;have:=repL_u8 hrep;subst this;rw [←hcell j (by omega)];simp only [World.cell?];rw [hr.cls.fx.block b hok.2.1 hok.2.2]
   · rename_i j z0 hx;split at h
     · rename_i z n l ty hf;obtain⟨⟨rfl,e,h1,h2,h3⟩,xs,rfl,hp⟩:=h;obtain⟨s1,e1,r1,_⟩:=evY_sim hs hx;simp only [RelD]at r1;obtain⟨rfl,_⟩:=r1;obtain⟨e',hf',he⟩:=hs.H _ _ hf;cases e' with
       |blk=>exact he.elim
       |mp=>exact he.elim
       |row v n' ys z' ty'=>
        obtain⟨rfl,rfl,rfl,hrep,hfl,hlen⟩:=he;have:=repL_u8 hrep;subst this;have hn:xs.length=n:=by simpa using hlen
        have hown:=hr.cls.row hf';have hden:den st.H (.row j)=v:=by simp [den,rowVal,hf']
        rcases hown.2 with⟨rfl,rfl⟩|⟨g,cap,cur,rfl,_,hb,_,_,_,htake⟩
        · exact hstr hop e1 hden h1 h2 h3 hn (.inl rfl) hp
        · refine hstr hop e1 hden h1 h2 h3 hn (.inr ⟨g,0,rfl,fun i hi=> ?_⟩) hp;rw [Nat.zero_add,cell_arr hb,←htake,List.getElem?_take,if_pos (by omega)];simp
     · exact h.elim
   · exact h.elim
 · exact h.elim
theorem fz_rel1 {sy1:Sy} {ks:List Nat} (hA:AG A X.P w0 bor) (hf:fzAll ks sy []=some (sy1, [])) (hs:Sim A st sy) (hr:Rel (cx X w0 bor) st a w):∃st',Sim A st' sy1∧Rel (cx X w0 bor) st' a w∧∀b,b∈bs st'.H→b∈bs st.H:=by
 have hr0:=hr.now;have hs0:=hs.now hr.cls;obtain⟨st1,_,c1,a1,s1,b1,o1,_,_⟩:=fzAll_ok (Xx:=cx X w0 bor) (r:= []) hA.a _ hr0.cls ⟨rfl,rfl,rfl⟩ hs0 (by simp only [RelDL]) hf;refine⟨st1,s1, ?_,fun b hb=>b1.bs b hb⟩;refine⟨hr.size,fun d s hd=> ?_,hr.dfs, ?_, ?_, ?_⟩
 · rcases o1 d s hd with e|⟨s0,h1,h2,h3⟩
   · exact .inl e
   · rcases hr0.T d s0 h1 with e|e
     · exact absurd e h2
     · right;rw [e,h3]
 · rw [a1.1];exact c1
 · rw [a1.2.1];exact Nat.le_refl _
 · rw [a1.2.2];simp
theorem stepO_ok (hA:AG A X.P w0 bor) (hP:POK X.P X.tt) {o:Oper} {Q:Exit→Act→World→Prop} {KY:Sy→Prop} (h:stepO X sy o KY)
 (hy:∀(st:St) (sy:Sy),y1 X sy o.op (finY X true sy o.dst KY)→Sim A st sy→Rel (cx X w0 bor) st a w→o.wp X.P a w (LvY A (cx X w0 bor) st.H w KY) Q) (hs:Sim A st sy) (hr:Rel (cx X w0 bor) st a w):o.wp X.P a w (LvY A (cx X w0 bor) st.H w KY) Q:=by
 unfold stepO at h;split at h
 · exact xop_ok hA hP h hs hr
 · split at h
   · exact hy st sy h hs hr
   · rcases h with h|⟨sy1,hf,h⟩
     · exact hy st sy h hs hr
     · obtain⟨st1,s1,r1,b1⟩:=fz_rel1 hA hf hs hr;refine Oper.wp_mono (fun a' w' hl=> ?_) (hy st1 sy1 h s1 r1);obtain⟨st2,sy2,hK,h2,hl⟩:=hl;exact⟨st2,sy2,hK,h2,hl.rel,⟨hl.fx.os,hl.fx.tape,hl.fx.output,hl.fx.size,fun i hi hn=>hl.fx.block i hi fun c hc=>hn c (b1 c hc)⟩,fun b hb=>(hl.bs b hb).imp (b1 b) id⟩
end
mutual
theorem le_rel {ok:Nat→Prop} {w:World} {R:Bool→Nat→Prop}:∀(x y:D) (s:SV),leD x y→RelD ok w R x s→RelD ok w R y s
 | .v x,y,v,h,hr=>by
  simp only [leD]at h;rcases h with rfl|⟨rfl,z,rfl⟩
  · exact hr
  · simp only [RelD,Rep]at hr⊢;exact⟨_,hr.1,none,0,rfl,Nat.le_refl _,by simp,by simp,rfl, .inl rfl⟩
 | .agg l,y,v,h,hr=>by
  simp only [leD]at h;obtain⟨r,rfl,h⟩:=h;simp only [RelD]at hr⊢;obtain⟨a,h1,h2,h3⟩:=hr;exact⟨a,h1,le_relL l r _ h h2,le_flat l r h h3⟩
 | .tup l,y,v,h,hr=>by
  simp only [leD]at h;obtain⟨r,rfl,h⟩:=h;simp only [RelD]at hr⊢;rcases hr with⟨a,h1,h2⟩|⟨a,h1,h2⟩
  · exact .inl ⟨a,h1,le_relL l r _ h h2⟩
  · exact .inr ⟨a,h1,le_relL l r _ h h2⟩
 | .lst _ _ _,y,v,h,hr=>by simp only [leD]at h;subst h;exact hr
 | .ptr _ _,y,v,h,hr=>by simp only [leD]at h;subst h;exact hr
 | .mp _,y,v,h,hr=>by simp only [leD]at h;subst h;exact hr
 | .fn _ _ _,y,v,h,hr=>by simp only [leD]at h;subst h;exact hr
 | .own _ _,y,v,h,hr=>by simp only [leD]at h;subst h;exact hr
 | .ownx _ _,y,v,h,hr=>by simp only [leD]at h;subst h;exact hr
 | .row _ _,y,v,h,hr=>by simp only [leD]at h;subst h;exact hr
 | .elr _ _ _ _,y,v,h,hr=>by simp only [leD]at h;subst h;exact hr
 | .osl _ _ _ _ _,y,v,h,hr=>by simp only [leD]at h;subst h;exact hr
 | .und,y,v,h,hr=>by simp only [leD]at h;subst h;exact hr
 | .bad,y,v,h,hr=>by simp only [leD]at h;subst h;exact hr
theorem le_relL {ok:Nat→Prop} {w:World} {R:Bool→Nat→Prop}:∀(l r:List D) (v:List SV),leDL l r→RelDL ok w R l v→RelDL ok w R r v
 | [], [],v,_,hr=>hr
 |x::l,y::r,v::vs,h,hr=>by
  simp only [leDL]at h;simp only [RelDL]at hr⊢;exact⟨le_rel x y v h.1 hr.1,le_relL l r vs h.2 hr.2⟩
 |_::_,_::_, [],_,hr=>by simp [RelDL]at hr
 | [],_::_,_,h,_=>by simp [leDL]at h
 |_::_, [],_,h,_=>by simp [leDL]at h
theorem le_flat:∀(l r:List D),leDL l r→flatD l=true→flatD r=true
 | [], [],_,_=>rfl
 |x::l,y::r,h,hf=>by
  simp only [leDL]at h;have h1:=flatD_mem hf List.mem_cons_self
  have h2:oneD y=true:=by
   have h:=h.1;cases x<;>simp [oneD]at h1<;>simp only [leD]at h
   · rcases h with rfl|⟨_,z,rfl⟩<;>rfl
   all_goals (subst h;rfl)
  simp only [flatD,h2];exact le_flat l r h.2 (flatD_of fun d hd=>flatD_mem hf (List.mem_cons_of_mem _ hd))
 | [],_::_,h,_=>by simp [leDL]at h
 |_::_, [],h,_=>by simp [leDL]at h
end
section
variable {A : Nat → Prop} {X : Cy} {w0 : World} {bor : List Nat} {st : St} {sy : Sy} {a : Act} {w : World} {Q : Exit → Act → World → Prop}
theorem lookY_kill {ops:List Oper} {T:List (Nat×D)} {d:Nat} {x:D} (h:lookY (killY ops T) d=some x) (hx:x≠ .bad):lookY T d=some x∧∀(T':List (Nat×SV)),look (killA ops T') d=look T' d:=by
 induction ops with
 |nil=>exact⟨h,fun _=>rfl⟩
 |cons o l ih=>
  simp only [killY]at h;split at h
  · rename_i d' ha hd;simp only [lookY]at h;cases hb:Nat.beq d' d with
    |true=>rw [hb]at h;cases h;exact absurd rfl hx
    |false=>
     rw [hb]at h;obtain⟨h1,h2⟩:=ih h;refine⟨h1,fun T'=> ?_⟩;simp only [killA,ha,hd,look,hb];exact h2 T'
  · rename_i hno;obtain⟨h1,h2⟩:=ih h;refine⟨h1,fun T'=> ?_⟩;simp only [killA];exact h2 T'
theorem kill_sim {T:List (Nat×D)} {H:Hy} {nk:Nat} {T':List (Nat×SV)} {H':Hp} {nk' lo:Nat} {ws:World} {iv:List (Nat×Nat)} {ops:List Oper} (hs:Sim A ⟨T',H',nk',ws,lo,iv⟩ ⟨T,H,nk⟩):
 Sim A ⟨killA ops T',H',nk',ws,ws.heap.size, []⟩ ⟨killY ops T,H,nk⟩:=by
 have hok:∀b,okS A ⟨T',H',nk',ws,lo,iv⟩ b→okS A ⟨killA ops T',H',nk',ws,ws.heap.size, []⟩ b∧ws.heap[b]?=ws.heap[b]?:=fun b hb=>⟨⟨⟨.inl hb.2.1,hb.1.2⟩,hb.2.1,hb.2.2⟩,rfl⟩
 refine⟨fun d x hx=> ?_,fun k e he=> ?_,hs.nk,fun j hj=> ?_,hs.fH⟩
 · by_cases hb:x= .bad
   · exact .inl hb
   · obtain⟨h1,h2⟩:=lookY_kill hx hb;rcases hs.T d x h1 with h|⟨s,h3,h4⟩
     · exact .inl h
     · exact .inr ⟨s,by simp only [h2];exact h3,RelD.mono hok (fun _ _ h=>h) _ _ h4⟩
 · obtain⟨e',h1,h2⟩:=hs.H k e he;exact⟨e',h1,RelE.mono hok (fun _ _ h=>h) h2⟩
 · have:=hs.fT j hj;simp only at this⊢;clear hs hok hj
   induction ops with
   |nil=>exact this
   |cons o l ih=>
    simp only [killA];split
    · simp only [freshT,ment];exact ih
    · exact ih
mutual
def fwS:D→SV→SV
 | .row k _,_=> .row k
 | .agg l,s=>match aggL s with|some cs=> .agg (fwL l cs)|none=>s
 | .tup l, .tup cs=> .tup (fwL l cs)
 | .tup l, .v (.tuple a)=> .tup (fwL l (vs a.toList))
 | .fn f x y, .fn _ a b=> .fn f (fwL x a) (fwL y b)
 | .fn f x y, .v (.func _ p q)=> .fn f (fwL x (vs p.toList)) (fwL y (vs q.toList))
 |_,s=>s
def fwL:List D→List SV→List SV
 |x::l,s::r=>fwS x s::fwL l r
 |_,_=> []
end
def fwB:List D→List SV→List SV
 | .bad::l,_::r=> .bad::fwB l r
 |x::l,s::r=>fwS x s::fwB l r
 |_,_=> []
def fwH (n:Nat) (H:Hp):Hy→Hp
 | []=> []
 |(k, .blk ds ty)::r=>(match findE H k with|some (.blk b cs ty')=>(k, .blk b (fwB ds cs) ty')|_=>(k, .row (.slice none 0 0) 0 [] 0 ty))::fwH n H r
 |(k, .row z m l ty)::r=>(match Nat.blt k n,findE H k with|true,some (.row v m' xs z' ty')=>(k, .row v m' xs z' ty')|_,_=>(k, .row (.slice none 0 0) 0 [] z ty))::fwH n H r
 |(k, .mp es ty)::r=>(match findE H k with|some (.mp b es' ty')=>(k, .mp b es' ty')|_=>(k, .row (.slice none 0 0) 0 [] 0 0))::fwH n H r
def fwT (T:List (Nat×SV)):List (Nat×D)→List (Nat×SV)
 | []=> []
 |(d,x)::r=>(match look T d with|some s=>(d,fwS x s)|none=>(d, .bad))::fwT T r
def srcOf (n:Nat):Hy→List (Option Nat)
 | []=> []
 |(k, .blk _ _)::r=>some k::srcOf n r
 |(k, .row _ _ _ _)::r=>(match Nat.blt k n with|true=>some k|false=>none)::srcOf n r
 |(k, .mp _ _)::r=>some k::srcOf n r
structure ShpAt (ok:Nat→Prop) (w:World) (n:Nat) (ks:List Nat) (R R':Bool→Nat→Prop) (H H':Hp):Prop where
 R:∀q j,memN j ks=true→j<n→R q j→R' q j
 old:∀j,memN j ks=true→j<n→bOf H' j=bOf H j∧rowVal H' j=rowVal H j
 new:∀j,memN j ks=true→¬j<n→R' true j∧rowVal H' j= .slice none 0 0
theorem blt_iff {a b:Nat}:Nat.blt a b=true↔a<b:=by simp [Nat.blt_eq]
mutual
theorem fw_rel {ok:Nat→Prop} {w:World} {n:Nat} {ks:List Nat} {R R':Bool→Nat→Prop} {H H':Hp} (hz:ShpAt ok w n ks R R' H H'):∀(x:D) (s:SV),RelD ok w R (back n x) s→inK n ks x=true→RelD ok w R' x (fwS x s)∧den H' (fwS x s)=den H s
 | .v x,s,h,_=>by simp only [back]at h;simp only [fwS];refine⟨h, ?_⟩;simp only [RelD]at h;rw [h.1];rfl
 | .lst z m l,s,h,_=>by simp only [back]at h;simp only [fwS];refine⟨h, ?_⟩;simp only [RelD]at h;obtain⟨y,rfl,_⟩:=h;rfl
 | .ptr l o,s,h,_=>by simp only [back]at h;simp only [fwS];refine⟨h, ?_⟩;simp only [RelD]at h;obtain⟨y,rfl,_⟩:=h;rfl
 | .mp l,s,h,_=>by simp only [back]at h;simp only [fwS];refine⟨h, ?_⟩;simp only [RelD]at h;obtain⟨y,rfl,_⟩:=h;rfl
 | .und,s,h,_=>by simp only [back]at h;simp only [fwS];refine⟨h, ?_⟩;simp only [RelD]at h;rw [h];rfl
 | .bad,s,h,hk=>by simp [inK]at hk
 | .own j o,s,h,hk=>by
  simp only [back,RelD]at h;simp only [inK]at hk;obtain⟨rfl,h⟩:=h;split at hk
  · rename_i hb;have hj:=blt_iff.1 hb;simp only [fwS,RelD];exact⟨⟨trivial,hz.R _ _ hk hj h⟩,by simp only [den,(hz.old j hk hj).1]⟩
  · cases hk
 | .ownx j o,s,h,hk=>by
  simp only [back,RelD]at h;simp only [inK]at hk;obtain⟨rfl,h⟩:=h;split at hk
  · rename_i hb;have hj:=blt_iff.1 hb;simp only [fwS,RelD];exact⟨⟨trivial,hz.R _ _ hk hj h⟩,by simp only [den,(hz.old j hk hj).1]⟩
  · cases hk
 | .elr j z i o,s,h,hk=>by
  simp only [back,RelD]at h;simp only [inK]at hk;obtain⟨rfl,h⟩:=h;split at hk
  · rename_i hb;have hj:=blt_iff.1 hb;simp only [fwS,RelD];exact⟨⟨trivial,hz.R _ _ hk hj h⟩,by simp only [den,(hz.old j hk hj).1]⟩
  · cases hk
 | .osl j o z m c,s,h,hk=>by
  simp only [back,RelD]at h;simp only [inK]at hk;obtain⟨rfl,h⟩:=h;split at hk
  · rename_i hb;have hj:=blt_iff.1 hb;simp only [fwS,RelD];exact⟨⟨trivial,hz.R _ _ hk hj h⟩,by simp only [den,(hz.old j hk hj).1,(hz.old j hk hj).2]⟩
  · cases hk
 | .row j z,s,h,hk=>by
  simp only [inK]at hk;simp only [back]at h;simp only [fwS,RelD];cases hb:Nat.blt j n with
  |true=>
   rw [hb]at h;simp only [RelD]at h;obtain⟨rfl,h⟩:=h;have hj:=blt_iff.1 hb;exact⟨⟨trivial,hz.R _ _ hk hj h⟩,by simp only [den,(hz.old j hk hj).2]⟩
  |false=>
   rw [hb]at h;have hj:¬j<n:=fun h=>by rw [blt_iff.2 h]at hb;cases hb
   have:=h.sc;subst this;exact⟨⟨trivial,(hz.new j hk hj).1⟩,by simp only [den,(hz.new j hk hj).2]⟩
 | .agg l,s,h,hk=>by
  simp only [back,RelD]at h;simp only [inK]at hk;obtain⟨cs,h1,h2,h3⟩:=h;obtain⟨g1,g2⟩:=fw_relL hz l cs h2 hk;simp only [fwS,h1,RelD];refine⟨⟨_,rfl,g1, ?_⟩, ?_⟩
  · refine flatD_of fun d hd=> ?_
    have:∀l:List D,flatD (backL n l)=true→∀d∈l,oneD d=true:=by
     intro l
     induction l with
     |nil=>simp
     |cons x l ih=>
      intro hf d hd;have h0:oneD (back n x)=true:=flatD_mem hf List.mem_cons_self;rcases List.mem_cons.1 hd with rfl|hd
      · cases d<;>simp [back,oneD]at h0⊢
      · exact ih (flatD_of fun d hd=>flatD_mem hf (List.mem_cons_of_mem _ hd)) d hd
    exact this l h3 d hd
  · cases s<;>simp [aggL]at h1
    · rename_i y;cases y<;>simp at h1;subst h1;rw [denL_vs]at g2;simp [den,g2]
    · subst h1;simp [den,g2]
 | .tup l,s,h,hk=>by
  simp only [back,RelD]at h;simp only [inK]at hk;rcases h with⟨cs,rfl,h2⟩|⟨a,rfl,h2⟩
  · obtain⟨g1,g2⟩:=fw_relL hz l cs h2 hk;simp only [fwS,RelD];exact⟨.inl ⟨_,rfl,g1⟩,by simp [den,g2]⟩
  · obtain⟨g1,g2⟩:=fw_relL hz l _ h2 hk;rw [denL_vs]at g2;simp only [fwS,RelD];exact⟨.inl ⟨_,rfl,g1⟩,by simp [den,g2]⟩
 | .fn f x y,s,h,hk=>by
  simp only [back,RelD]at h;simp only [inK]at hk;split at hk
  · rename_i hx;rcases h with⟨p,q,rfl,h2,h3⟩|⟨p,q,rfl,h2,h3⟩
    · obtain⟨g1,g2⟩:=fw_relL hz x p h2 hx;obtain⟨g3,g4⟩:=fw_relL hz y q h3 hk;simp only [fwS,RelD];exact⟨.inl ⟨_,_,rfl,g1,g3⟩,by simp [den,g2,g4]⟩
    · obtain⟨g1,g2⟩:=fw_relL hz x _ h2 hx;obtain⟨g3,g4⟩:=fw_relL hz y _ h3 hk;rw [denL_vs]at g2 g4;simp only [fwS,RelD];exact⟨.inl ⟨_,_,rfl,g1,g3⟩,by simp [den,g2,g4]⟩
  · cases hk
theorem fw_relL {ok:Nat→Prop} {w:World} {n:Nat} {ks:List Nat} {R R':Bool→Nat→Prop} {H H':Hp} (hz:ShpAt ok w n ks R R' H H'):∀(l:List D) (r:List SV),RelDL ok w R (backL n l) r→inKL n ks l=true→RelDL ok w R' l (fwL l r)∧denL H' (fwL l r)=denL H r
 | [], [],_,_=>⟨trivial,rfl⟩
 |x::l,s::r,h,hk=>by
  simp only [backL,RelDL]at h;simp only [inKL]at hk;split at hk
  · rename_i hx;obtain⟨g1,g2⟩:=fw_rel hz x s h.1 hx;obtain⟨g3,g4⟩:=fw_relL hz l r h.2 hk;simp only [fwL];exact⟨⟨g1,g3⟩,by simp [denL,g2,g4]⟩
  · cases hk
 | [],_::_,h,_=>by simp [backL,RelDL]at h
 |_::_, [],h,_=>by simp [backL,RelDL]at h
end
def RelB (ok:Nat→Prop) (w:World) (R:Bool→Nat→Prop):List D→List SV→Prop
 | [], []=>True
 | .bad::l,_::r=>RelB ok w R l r
 |x::l,s::r=>RelD ok w R x s∧RelB ok w R l r
 |_,_=>False
theorem le_relB {ok:Nat→Prop} {w:World} {R:Bool→Nat→Prop}:∀(l r:List D) (v:List SV),leBL l r→RelDL ok w R l v→RelB ok w R r v
 | [], [], [],_,_=>trivial
 |x::l,y::r,v::vs,h,hr=>by
  simp only [RelDL]at hr;cases y<;>simp only [leBL]at h<;>simp only [RelB]
  case bad=>exact le_relB l r vs h hr.2
  all_goals exact⟨le_rel x _ v h.1 hr.1,le_relB l r vs h.2 hr.2⟩
 |_::_, [],_,h,_=>by simp [leBL]at h
 | [],y::_,_,h,_=>by cases y<;>simp [leBL]at h
 |_::_,_::_, [],_,hr=>by simp [RelDL]at hr
 | [], [],_::_,_,hr=>by simp [RelDL]at hr
theorem fw_relB {ok:Nat→Prop} {w:World} {n:Nat} {ks:List Nat} {R R':Bool→Nat→Prop} {H H':Hp} (hz:ShpAt ok w n ks R R' H H'):∀(l:List D) (r:List SV),RelB ok w R (backL n l) r→inKB n ks l=true→RelDL ok w R' l (fwB l r)∧subB H H' r (fwB l r)
 | [], [],_,_=>⟨trivial,trivial⟩
 | [],_::_,h,_=>by simp [backL,RelB]at h
 |x::l, [],h,_=>by
  simp only [backL]at h;cases hx:back n x<;>rw [hx]at h<;>simp [RelB]at h
 |x::l,s::r,h,hk=>by
  have gen:x≠ .bad→(RelB ok w R (back n x::backL n l) (s::r)→RelD ok w R (back n x) s∧RelB ok w R (backL n l) r)→(inK n ks x=true∧oneD x=true∧inKB n ks l=true)→fwB (x::l) (s::r)=fwS x s::fwB l r→RelDL ok w R' (x::l) (fwB (x::l) (s::r))∧subB H H' (s::r) (fwB (x::l) (s::r)):=by
   intro hb h1 h2 h3;obtain⟨g1,g2⟩:=h1 h;obtain⟨k1,k2,k3⟩:=h2;obtain⟨q1,q2⟩:=fw_rel hz x s g1 k1;obtain⟨q3,q4⟩:=fw_relB hz l r g2 k3;rw [h3];refine⟨⟨q1,q3⟩, .inr ⟨RelD.ne g1 ?_,q2.symm⟩,q4⟩;cases x<;>simp only [back]<;>first|exact absurd rfl hb|(split<;>simp)|simp
  cases x
  case bad=>
   simp only [backL,back,RelB]at h;simp only [inKB]at hk;obtain⟨q3,q4⟩:=fw_relB hz l r h hk;simp only [fwB];exact⟨⟨by simp only [RelD],q3⟩, .inl rfl,q4⟩
  case row k z=>
   refine gen (by simp) (fun h=> ?_) ?_ rfl
   · simp only [back]at h⊢;split at h<;>simpa only [RelB]using h
   · simp only [inKB]at hk;split at hk
     · rename_i h1 h2;exact⟨h1,h2,hk⟩
     · cases hk
  all_goals
   refine gen (by simp) (fun h=>by simpa only [back,RelB]using h) ?_ rfl
   simp only [inKB]at hk;split at hk
   · rename_i h1 h2;exact⟨h1,h2,hk⟩
   · cases hk
end
theorem swN_cases (a b k:Nat):(k=a∧swN a b k=b)∨(k≠a∧k=b∧swN a b k=a)∨(k≠a∧k≠b∧swN a b k=k):=by
 unfold swN;by_cases h:k=a
 · subst h;left;simp
 · by_cases h2:k=b
   · subst h2;right;left;simp [beqN h,h]
   · right;right;simp [beqN h,beqN h2,h,h2]
theorem swN_swN (a b k:Nat):swN a b (swN a b k)=k:=by
 rcases swN_cases a b k with⟨h,e⟩|⟨h,h2,e⟩|⟨h,h2,e⟩<;>rw [e]
 · rcases swN_cases a b b with⟨g,e2⟩|⟨g,g2,e2⟩|⟨g,g2,e2⟩<;>rw [e2]
   · rw [h,g]
   · exact h.symm
   · exact absurd rfl g2
 · rcases swN_cases a b a with⟨g,e2⟩|⟨g,g2,e2⟩|⟨g,g2,e2⟩<;>rw [e2]
   · exact h2.symm
   · exact absurd rfl g
   · exact absurd rfl g
 · exact e
theorem swN_inj {a b j k:Nat} (h:swN a b j=swN a b k):j=k:=by rw [←swN_swN a b j,h,swN_swN]
theorem swN_beq (a b j k:Nat):Nat.beq (swN a b j) (swN a b k)=Nat.beq j k:=by
 by_cases h:j=k
 · subst h;simp
 · rw [beqN h,beqN fun e=>h (swN_inj e)]
theorem swN_lt {a b k m:Nat} (ha:a<m) (hb:b<m):swN a b k<m↔k<m:=by
 rcases swN_cases a b k with⟨h,e⟩|⟨h,h2,e⟩|⟨h,h2,e⟩<;>rw [e]<;>omega
theorem swN_ge {a b k m:Nat} (ha:a<m) (hb:b<m) (hk:m≤k):swN a b k=k:=by
 rcases swN_cases a b k with⟨h,e⟩|⟨h,h2,e⟩|⟨h,h2,e⟩<;>first|omega|exact e
mutual
theorem swD_swD (a b:Nat):∀x:D,swD a b (swD a b x)=x
 | .own k o=>by simp only [swD,swN_swN]
 | .ownx k o=>by simp only [swD,swN_swN]
 | .row k z=>by simp only [swD,swN_swN]
 | .elr k z i o=>by simp only [swD,swN_swN]
 | .osl k o z n c=>by simp only [swD,swN_swN]
 | .agg l=>by simp only [swD,swDL_swDL]
 | .tup l=>by simp only [swD,swDL_swDL]
 | .fn f p q=>by simp only [swD,swDL_swDL]
 | .v x=>rfl
 | .lst z n l=>rfl
 | .ptr l o=>rfl
 | .mp l=>rfl
 | .und=>rfl
 | .bad=>rfl
theorem swDL_swDL (a b:Nat):∀l:List D,swDL a b (swDL a b l)=l
 | []=>rfl
 |x::l=>by simp only [swDL,swD_swD,swDL_swDL]
end
theorem swTY_swTY (a b:Nat):∀T,swTY a b (swTY a b T)=T
 | []=>rfl
 |(d,x)::T=>by simp only [swTY,swD_swD,swTY_swTY]
theorem swHY_swHY (a b:Nat):∀H,swHY a b (swHY a b H)=H
 | []=>rfl
 |(k,e)::H=>by cases e<;>simp only [swHY,swE,swN_swN,swDL_swDL,swHY_swHY]
mutual
def swS (a b:Nat):SV→SV
 | .own k o=> .own (swN a b k) o
 | .ownx k o=> .ownx (swN a b k) o
 | .osl k o n c=> .osl (swN a b k) o n c
 | .row k=> .row (swN a b k)
 | .agg l=> .agg (swSL a b l)
 | .tup l=> .tup (swSL a b l)
 | .fn f p q=> .fn f (swSL a b p) (swSL a b q)
 | .v x=> .v x
 | .bad=> .bad
def swSL (a b:Nat):List SV→List SV
 | []=> []
 |x::l=>swS a b x::swSL a b l
end
def swEn (a b:Nat):Ent→Ent
 | .blk n cs ty=> .blk n (swSL a b cs) ty
 | .row v n xs sz ty=> .row v n xs sz ty
 | .mp n es ty=> .mp n es ty
def swT (a b:Nat):List (Nat×SV)→List (Nat×SV)
 | []=> []
 |(d,x)::T=>(d,swS a b x)::swT a b T
def swH (a b:Nat):Hp→Hp
 | []=> []
 |(k,e)::H=>(swN a b k,swEn a b e)::swH a b H
theorem swSL_vs (a b:Nat):∀l,swSL a b (vs l)=vs l
 | []=>rfl
 |x::l=>by simp only [vs,swSL,swS,swSL_vs]
section
variable {a b : Nat} {H : Hp}
theorem findE_sw (k:Nat):∀H,findE (swH a b H) (swN a b k)=(findE H k).map (swEn a b)
 | []=>rfl
 |(j,e)::H=>by
  simp only [swH,findE,swN_beq];cases Nat.beq j k with
  |true=>rfl
  |false=>exact findE_sw k H
theorem findY_sw (k:Nat):∀H:Hy,findY (swHY a b H) (swN a b k)=(findY H k).map (swE a b)
 | []=>rfl
 |(j,e)::H=>by
  simp only [swHY,findY,swN_beq];cases Nat.beq j k with
  |true=>rfl
  |false=>exact findY_sw k H
theorem look_sw (d:Nat):∀T,look (swT a b T) d=(look T d).map (swS a b)
 | []=>rfl
 |(j,e)::T=>by
  simp only [swT,look];cases Nat.beq j d with
  |true=>rfl
  |false=>exact look_sw d T
theorem lookY_sw (d:Nat):∀T,lookY (swTY a b T) d=(lookY T d).map (swD a b)
 | []=>rfl
 |(j,e)::T=>by
  simp only [swTY,lookY];cases Nat.beq j d with
  |true=>rfl
  |false=>exact lookY_sw d T
theorem bOf_sw (k:Nat):bOf (swH a b H) (swN a b k)=bOf H k:=by
 unfold bOf;rw [findE_sw];cases findE H k with
 |none=>rfl
 |some e=>cases e<;>rfl
theorem rowVal_sw (k:Nat):rowVal (swH a b H) (swN a b k)=rowVal H k:=by
 unfold rowVal;rw [findE_sw];cases findE H k with
 |none=>rfl
 |some e=>cases e<;>rfl
mutual
theorem den_sw:∀s:SV,den (swH a b H) (swS a b s)=den H s
 | .own k o=>by simp only [swS,den,bOf_sw]
 | .ownx k o=>by simp only [swS,den,bOf_sw]
 | .osl k o n c=>by simp only [swS,den,bOf_sw,rowVal_sw]
 | .row k=>by simp only [swS,den,rowVal_sw]
 | .agg l=>by simp only [swS,den,denL_sw l]
 | .tup l=>by simp only [swS,den,denL_sw l]
 | .fn f p q=>by simp only [swS,den,denL_sw p,denL_sw q]
 | .v x=>rfl
 | .bad=>rfl
theorem denL_sw:∀l:List SV,denL (swH a b H) (swSL a b l)=denL H l
 | []=>rfl
 |x::l=>by simp only [swSL,denL,den_sw x,denL_sw l]
end
theorem cellsR_sw:∀ {l:List SV} {xs:List Value},cellsR H l xs→cellsR (swH a b H) (swSL a b l) xs
 | [], [],_=>trivial
 |s::l,x::r,h=>by
  simp only [cellsR,swSL]at h⊢;refine⟨?_,cellsR_sw h.2⟩;rcases h.1 with h|h
  · left;rw [h];rfl
  · right;rw [h,den_sw]
 | [],_::_,h=>by simp [cellsR]at h
 |_::_, [],h=>by simp [cellsR]at h
theorem bs_sw:∀H,bs (swH a b H)=bs H
 | []=>rfl
 |(k,e)::H=>by cases e<;>simp only [swH,bs,swEn,bsE,bs_sw H]
theorem keys_sw:∀H,(swH a b H).map (·.1)=(H.map (·.1)).map (swN a b)
 | []=>rfl
 |(k,e)::H=>by simp only [swH,List.map_cons,keys_sw H]
theorem mem_sw:∀ {H:Hp} {k:Nat} {e:Ent},(k,e)∈swH a b H→∃k0 e0,(k0,e0)∈H∧k=swN a b k0∧e=swEn a b e0
 | [],_,_,h=>by simp [swH]at h
 |(j,f)::H,k,e,h=>by
  simp only [swH,List.mem_cons,Prod.mk.injEq]at h;rcases h with⟨rfl,rfl⟩|h
  · exact⟨j,f,List.mem_cons_self,rfl,rfl⟩
  · obtain⟨k0,e0,h1,h2⟩:=mem_sw h;exact⟨k0,e0,List.mem_cons_of_mem _ h1,h2⟩
mutual
theorem ment_sw (j:Nat):∀s:SV,ment (swN a b j) (swS a b s)=ment j s
 | .own k o=>by simp only [swS,ment,swN_beq]
 | .ownx k o=>by simp only [swS,ment,swN_beq]
 | .osl k o n c=>by simp only [swS,ment,swN_beq]
 | .row k=>by simp only [swS,ment,swN_beq]
 | .agg l=>by simp only [swS,ment,mentL_sw j l]
 | .tup l=>by simp only [swS,ment,mentL_sw j l]
 | .fn f p q=>by simp only [swS,ment,mentL_sw j p,mentL_sw j q]
 | .v x=>rfl
 | .bad=>rfl
theorem mentL_sw (j:Nat):∀l:List SV,mentL (swN a b j) (swSL a b l)=mentL j l
 | []=>rfl
 |x::l=>by simp only [swSL,mentL,ment_sw j x,mentL_sw j l]
end
theorem freshT_sw (j:Nat):∀T,freshT (swN a b j) (swT a b T)=freshT j T
 | []=>rfl
 |(d,s)::T=>by simp only [swT,freshT,ment_sw,freshT_sw j T]
theorem freshH_sw (j:Nat):∀H,freshH (swN a b j) (swH a b H)=freshH j H
 | []=>rfl
 |(k, .blk n cs ty)::H=>by simp only [swH,swEn,freshH,mentL_sw,freshH_sw j H]
 |(k, .row v n xs sz ty)::H=>by simp only [swH,swEn,freshH,freshH_sw j H]
 |(k, .mp n es ty)::H=>by simp only [swH,swEn,freshH,freshH_sw j H]
end
mutual
theorem relD_sw {ok:Nat→Prop} {w:World} {R R':Bool→Nat→Prop} {a b:Nat} (hR:∀q k,R q k→R' q (swN a b k)):∀(d:D) (s:SV),RelD ok w R d s→RelD ok w R' (swD a b d) (swS a b s)
 | .v x,s,h=>by simp only [RelD]at h;obtain⟨rfl,h⟩:=h;simp only [swD,swS,RelD];exact⟨trivial,h⟩
 | .agg l,s,h=>by
  simp only [RelD]at h;obtain⟨cs,h1,h2,h3⟩:=h;simp only [swD,RelD];refine⟨swSL a b cs, ?_,relDL_sw hR l cs h2,flat_sw l h3⟩;unfold aggL at h1⊢;cases s with
  |agg l'=>simp only [Option.some.injEq]at h1;subst h1;rfl
  |v x=>cases x<;>first|(simp only [Option.some.injEq]at h1;subst h1;simp only [swS,swSL_vs])|cases h1
  |_=>cases h1
 | .lst z n l,s,h=>by simp only [RelD]at h;obtain⟨y,rfl,h⟩:=h;simp only [swD,swS,RelD];exact⟨y,rfl,h⟩
 | .ptr l o,s,h=>by simp only [RelD]at h;obtain⟨y,rfl,h⟩:=h;simp only [swD,swS,RelD];exact⟨y,rfl,h⟩
 | .mp l,s,h=>by simp only [RelD]at h;obtain⟨y,rfl,h⟩:=h;simp only [swD,swS,RelD];exact⟨y,rfl,h⟩
 | .own k o,s,h=>by simp only [RelD]at h;obtain⟨rfl,h⟩:=h;simp only [swD,swS,RelD];exact⟨trivial,hR _ _ h⟩
 | .ownx k o,s,h=>by simp only [RelD]at h;obtain⟨rfl,h⟩:=h;simp only [swD,swS,RelD];exact⟨trivial,hR _ _ h⟩
 | .row k z,s,h=>by simp only [RelD]at h;obtain⟨rfl,h⟩:=h;simp only [swD,swS,RelD];exact⟨trivial,hR _ _ h⟩
 | .elr k z i o,s,h=>by simp only [RelD]at h;obtain⟨rfl,h⟩:=h;simp only [swD,swS,RelD];exact⟨trivial,hR _ _ h⟩
 | .osl k o z n c,s,h=>by simp only [RelD]at h;obtain⟨rfl,h⟩:=h;simp only [swD,swS,RelD];exact⟨trivial,hR _ _ h⟩
 | .tup l,s,h=>by
  simp only [RelD]at h;simp only [swD,RelD];rcases h with⟨cs,rfl,h⟩|⟨x,rfl,h⟩
  · exact .inl ⟨swSL a b cs,by simp only [swS],relDL_sw hR l cs h⟩
  · have:=relDL_sw hR l _ h;rw [swSL_vs]at this;exact .inr ⟨x,by simp only [swS],this⟩
 | .fn f p q,s,h=>by
  simp only [RelD]at h;simp only [swD,RelD];rcases h with⟨x,y,rfl,h1,h2⟩|⟨x,y,rfl,h1,h2⟩
  · exact .inl ⟨swSL a b x,swSL a b y,by simp only [swS],relDL_sw hR p x h1,relDL_sw hR q y h2⟩
  · have h1:=relDL_sw hR p _ h1;have h2:=relDL_sw hR q _ h2;rw [swSL_vs]at h1 h2;exact .inr ⟨x,y,by simp only [swS],h1,h2⟩
 | .und,s,h=>by simp only [RelD]at h;subst h;simp only [swD,swS,RelD]
 | .bad,s,h=>by simp only [RelD]at h;subst h;simp only [swD,swS,RelD]
theorem relDL_sw {ok:Nat→Prop} {w:World} {R R':Bool→Nat→Prop} {a b:Nat} (hR:∀q k,R q k→R' q (swN a b k)):∀(l:List D) (r:List SV),RelDL ok w R l r→RelDL ok w R' (swDL a b l) (swSL a b r)
 | [], [],_=>trivial
 |d::l,y::r,h=>by
  simp only [RelDL]at h;simp only [swDL,swSL,RelDL];exact⟨relD_sw hR d y h.1,relDL_sw hR l r h.2⟩
 | [],_::_,h=>by simp [RelDL]at h
 |_::_, [],h=>by simp [RelDL]at h
theorem flat_sw {a b:Nat}:∀l:List D,flatD l=true→flatD (swDL a b l)=true
 | [],_=>rfl
 |x::l,h=>by
  cases x<;>simp only [swDL,swD,flatD,oneD]at h⊢<;>first|exact flat_sw l h|exact h
end
def swSt (a b:Nat) (st:St):St:=⟨swT a b st.T,swH a b st.H,st.nk,st.w,st.lo,st.iv⟩
theorem sw_ok {A:Nat→Prop} {X:Cx} {st:St} {sy:Sy} {ac:Act} {w:World} {a b:Nat} (ha:a<st.nk) (hb:b<st.nk) (hs:Sim A st sy) (hr:Rel X st ac w):
 Sim A (swSt a b st) ⟨swTY a b sy.T,swHY a b sy.H,sy.nk⟩∧Rel X (swSt a b st) ac w:=by
 have hok:okS A (swSt a b st)=okS A st:=by
  funext c;simp only [okS,swSt,neAll,bs_sw]
 have hkey:∀q k,keyS st q k→keyS (swSt a b st) q (swN a b k):=by
  intro q k h;refine⟨(swN_lt ha hb).2 h.1,fun hq=> ?_⟩;obtain⟨e,h1,h2⟩:=h.2 hq;refine⟨swEn a b e,by simp only [swSt];rw [findE_sw,h1];rfl, ?_⟩;cases e<;>exact h2
 refine⟨⟨fun d x hx=> ?_,fun k e he=> ?_,hs.nk,fun j hj=> ?_,fun j hj=> ?_⟩,⟨hr.size,fun d s hd=> ?_,hr.dfs, ?_,hr.lo,hr.iv⟩⟩
 · simp only [lookY_sw]at hx;cases hl:lookY sy.T d with
   |none=>rw [hl]at hx;cases hx
   |some y=>
    rw [hl]at hx;cases hx;rcases hs.T d y hl with rfl|⟨s,h1,h2⟩
    · left;simp only [swD]
    · right;refine⟨swS a b s,by simp only [swSt];rw [look_sw,h1];rfl, ?_⟩;rw [hok];exact relD_sw hkey _ _ h2
 · obtain⟨k,rfl⟩:∃j,k=swN a b j:=⟨swN a b k,(swN_swN _ _ _).symm⟩;simp only [findY_sw]at he;cases hl:findY sy.H k with
   |none=>rw [hl]at he;cases he
   |some y=>
    rw [hl]at he;cases he;obtain⟨e',h1,h2⟩:=hs.H k y hl;refine⟨swEn a b e',by simp only [swSt];rw [findE_sw,h1];rfl, ?_⟩;rw [hok];cases y<;>cases e'<;>simp only [RelE,swE,swEn]at h2⊢
    · exact⟨h2.1,relDL_sw hkey _ _ h2.2⟩
    · exact h2
    · exact h2
 · simp only [swSt]at hj⊢;rw [←swN_ge ha hb hj,freshT_sw];exact hs.fT j hj
 · simp only [swSt]at hj⊢;rw [←swN_ge ha hb hj,freshH_sw];exact hs.fH j hj
 · simp only [swSt,look_sw]at hd;cases hl:look st.T d with
   |none=>rw [hl]at hd;cases hd
   |some y=>
    rw [hl]at hd;cases hd;rcases hr.T d y hl with rfl|h
    · left;simp only [swS]
    · right;rw [h];simp only [swSt,den_sw]
 · have hc:=hr.cls;refine⟨by simp only [swSt,bs_sw];exact hc.fx,hc.fx0,fun k e hm=> ?_,by simp only [swSt,bs_sw];exact hc.nd,by simp only [swSt,bs_sw];exact hc.lb, ?_,fun k e hm=> ?_⟩
   · simp only [swSt]at hm⊢;obtain⟨k0,e0,h1,rfl,rfl⟩:=mem_sw hm;have h:=hc.own k0 e0 h1;cases e0 with
     |blk n cs ty=>obtain⟨xs,g1,g2⟩:=h;exact⟨xs,cellsR_sw g1,g2⟩
     |row=>exact h
     |mp=>exact h
   · simp only [swSt,keys_sw];exact List.pairwise_map.2 (hc.keys.imp fun h e=>h (swN_inj e))
   · simp only [swSt]at hm⊢;obtain⟨k0,e0,h1,rfl,rfl⟩:=mem_sw hm;exact(swN_lt ha hb).2 (hc.lt k0 e0 h1)
section
variable {A : Nat → Prop} {X : Cy} {w0 : World} {bor : List Nat} {st : St} {sy : Sy} {a : Act} {w : World} {Q : Exit → Act → World → Prop}
theorem keys_fw {n:Nat} {H:Hp}:∀(Hd:Hy),(fwH n H Hd).map (·.1)=keysY Hd
 | []=>rfl
 |(k, .blk ds ty)::r=>by
  simp only [fwH,keysY,List.map_cons,keys_fw r];congr 1;split<;>rfl
 |(k, .row z m l ty)::r=>by
  simp only [fwH,keysY,List.map_cons,keys_fw r];congr 1;split<;>rfl
 |(k, .mp es ty)::r=>by
  simp only [fwH,keysY,List.map_cons,keys_fw r];congr 1;split<;>rfl
theorem memN_keys {k:Nat}:∀ {H:Hy},memN k (keysY H)=true→∃e,findY H k=some e
 | [],h=>by simp [keysY,memN]at h
 |(j,e)::r,h=>by
  simp only [keysY,memN]at h;simp only [findY];cases hb:Nat.beq j k with
  |true=>exact⟨e,rfl⟩
  |false=>
   rw [hb]at h;exact memN_keys h
theorem find_fw_blk {n:Nat} {H:Hp} {k b:Nat} {cs:List SV} {ty ty0:TypeId} {ds:List D} (hf:findE H k=some (.blk b cs ty)):∀ {Hd:Hy},findY Hd k=some (.blk ds ty0)→findE (fwH n H Hd) k=some (.blk b (fwB ds cs) ty)
 | [],h=>by simp [findY]at h
 |(j,e)::r,h=>by
  simp only [findY]at h;cases hb:Nat.beq j k with
  |true=>
   rw [hb]at h;cases h;have:=beqT hb;subst this;simp only [fwH,hf,findE,hb]
  |false=>
   rw [hb]at h;have ih:=find_fw_blk hf (n:=n) h;cases e with
   |blk d t=>
    simp only [fwH];split<;>simp only [findE,hb]<;>exact ih
   |row z m l t=>
    simp only [fwH];split<;>simp only [findE,hb]<;>exact ih
   |mp es t=>
    simp only [fwH];split<;>simp only [findE,hb]<;>exact ih
theorem find_fw_row {n:Nat} {H:Hp} {k z m z' m':Nat} {l:List D} {v:Value} {xs:List Value} {ty ty':TypeId} (hb0:Nat.blt k n=true) (hf:findE H k=some (.row v m' xs z' ty')):∀ {Hd:Hy},findY Hd k=some (.row z m l ty)→findE (fwH n H Hd) k=some (.row v m' xs z' ty')
 | [],h=>by simp [findY]at h
 |(j,e)::r,h=>by
  simp only [findY]at h;cases hb:Nat.beq j k with
  |true=>
   rw [hb]at h;cases h;have:=beqT hb;subst this;simp only [fwH,hf,hb0,findE,hb]
  |false=>
   rw [hb]at h;have ih:=find_fw_row hb0 hf (n:=n) h;cases e with
   |blk d t=>
    simp only [fwH];split<;>simp only [findE,hb]<;>exact ih
   |row z m l t=>
    simp only [fwH];split<;>simp only [findE,hb]<;>exact ih
   |mp es t=>
    simp only [fwH];split<;>simp only [findE,hb]<;>exact ih
theorem find_fw_mp {n:Nat} {H:Hp} {k b:Nat} {es es0:List (Value×Value)} {ty ty':MTy} (hf:findE H k=some (.mp b es0 ty')):∀ {Hd:Hy},findY Hd k=some (.mp es ty)→findE (fwH n H Hd) k=some (.mp b es0 ty')
 | [],h=>by simp [findY]at h
 |(j,e)::r,h=>by
  simp only [findY]at h;cases hb:Nat.beq j k with
  |true=>
   rw [hb]at h;cases h;have:=beqT hb;subst this;simp only [fwH,hf,findE,hb]
  |false=>
   rw [hb]at h;have ih:=find_fw_mp hf (n:=n) h;cases e with
   |blk d t=>
    simp only [fwH];split<;>simp only [findE,hb]<;>exact ih
   |row z m l t=>
    simp only [fwH];split<;>simp only [findE,hb]<;>exact ih
   |mp es t=>
    simp only [fwH];split<;>simp only [findE,hb]<;>exact ih
theorem find_fw_new {n:Nat} {H:Hp} {k z m:Nat} {l:List D} {ty:TypeId} (hb0:Nat.blt k n=false):∀ {Hd:Hy},findY Hd k=some (.row z m l ty)→findE (fwH n H Hd) k=some (.row (.slice none 0 0) 0 [] z ty)
 | [],h=>by simp [findY]at h
 |(j,e)::r,h=>by
  simp only [findY]at h;cases hb:Nat.beq j k with
  |true=>
   rw [hb]at h;cases h;have:=beqT hb;subst this;simp only [fwH,hb0,findE,hb]
  |false=>
   rw [hb]at h;have ih:=find_fw_new hb0 (n:=n) (H:=H) h;cases e with
   |blk d t=>
    simp only [fwH];split<;>simp only [findE,hb]<;>exact ih
   |row z m l t=>
    simp only [fwH];split<;>simp only [findE,hb]<;>exact ih
   |mp es t=>
    simp only [fwH];split<;>simp only [findE,hb]<;>exact ih
theorem subHY_find {n:Nat} {H:Hy} {k:Nat} {e:E}:∀ {Hd:Hy},subHY n H Hd→findY Hd k=some e→subEY n H k e
 | [],_,h=>by simp [findY]at h
 |(j,e')::r,hs,h=>by
  simp only [subHY]at hs;simp only [findY]at h;cases hb:Nat.beq j k with
  |true=>rw [hb]at h;cases h;have:=beqT hb;subst this;exact hs.1
  |false=>rw [hb]at h;exact subHY_find hs.2 h
theorem inKH_find {n:Nat} {ks:List Nat} {k:Nat} {ds:List D} {ty:TypeId}:∀ {Hd:Hy},inKH n ks Hd=true→findY Hd k=some (.blk ds ty)→k<n∧inKB n ks ds=true
 | [],_,h=>by simp [findY]at h
 |(j, .blk d t)::r,hs,h=>by
  simp only [inKH]at hs;split at hs
  · rename_i h1 h2;simp only [findY]at h;cases hb:Nat.beq j k with
    |true=>rw [hb]at h;cases h;have:=beqT hb;subst this;exact⟨blt_iff.1 h1,h2⟩
    |false=>rw [hb]at h;exact inKH_find hs h
  · cases hs
 |(j, .row z m l t)::r,hs,h=>by
  simp only [inKH]at hs;simp only [findY]at h;cases hb:Nat.beq j k with
  |true=>rw [hb]at h;cases h
  |false=>rw [hb]at h;exact inKH_find hs h
 |(j, .mp es t)::r,hs,h=>by
  simp only [inKH]at hs;split at hs
  · simp only [findY]at h;cases hb:Nat.beq j k with
    |true=>rw [hb]at h;cases h
    |false=>rw [hb]at h;exact inKH_find hs h
  · cases hs
theorem inKH_mp {n:Nat} {ks:List Nat} {k:Nat} {es:List (Value×Value)} {ty:MTy}:∀ {Hd:Hy},inKH n ks Hd=true→findY Hd k=some (.mp es ty)→k<n
 | [],_,h=>by simp [findY]at h
 |(j, .blk d t)::r,hs,h=>by
  simp only [inKH]at hs;split at hs
  · simp only [findY]at h;cases hb:Nat.beq j k with
    |true=>rw [hb]at h;cases h
    |false=>rw [hb]at h;exact inKH_mp hs h
  · cases hs
 |(j, .row z m l t)::r,hs,h=>by
  simp only [inKH]at hs;simp only [findY]at h;cases hb:Nat.beq j k with
  |true=>rw [hb]at h;cases h
  |false=>rw [hb]at h;exact inKH_mp hs h
 |(j, .mp es t)::r,hs,h=>by
  simp only [inKH]at hs;split at hs
  · rename_i h1;simp only [findY]at h;cases hb:Nat.beq j k with
    |true=>have:=beqT hb;subst this;exact blt_iff.1 h1
    |false=>rw [hb]at h;exact inKH_mp hs h
  · cases hs
theorem ndB_nodup {l:List Nat} (h:ndB l=true):l.Nodup:=ndB_ok h
theorem look_fwT {T:List (Nat×SV)} {d:Nat}:∀ {Td:List (Nat×D)} {x:D} {s:SV},lookY Td d=some x→look T d=some s→look (fwT T Td) d=some (fwS x s)
 | [],_,_,h,_=>by simp [lookY]at h
 |(i,y)::r,x,s,h,hl=>by
  simp only [lookY]at h;cases hb:Nat.beq i d with
  |true=>
   rw [hb]at h;cases h;have:=beqT hb;subst this;simp only [fwT,hl,look,hb]
  |false=>
   rw [hb]at h;simp only [fwT];split<;>simp only [look,hb]<;>exact look_fwT h hl
theorem inKT_find {n:Nat} {ks:List Nat}:∀ {Td:List (Nat×D)},inKT n ks Td=true→∀p,p∈Td→inK n ks p.2=true
 | [],_,_,h=>by cases h
 |(i,y)::r,hs,p,h=>by
  simp only [inKT]at hs;split at hs
  · rename_i h1;rcases List.mem_cons.1 h with rfl|h
    · exact h1
    · exact inKT_find hs p h
  · cases hs
theorem ltY_mem {n:Nat}:∀ {H:Hy},ltY n H=true→∀k,k∈keysY H→k<n
 | [],_,_,h=>by cases h
 |(j,e)::r,hs,k,h=>by
  simp only [ltY]at hs;split at hs
  · rename_i hb;simp only [keysY]at h;rcases List.mem_cons.1 h with rfl|h
    · exact blt_iff.1 hb
    · exact ltY_mem hs k h
  · cases hs
theorem findY_mem {H:Hy} {k:Nat} {e:E} (h:findY H k=some e):(k,e)∈H:=by
 induction H with
 |nil=>simp [findY]at h
 |cons x H ih=>
  obtain⟨j,e'⟩:=x;simp only [findY]at h;cases hb:Nat.beq j k with
  |true=>rw [hb]at h;cases h;rw [beqT hb];exact List.mem_cons_self
  |false=>rw [hb]at h;exact List.mem_cons_of_mem _ (ih h)
theorem keysY_mem {H:Hy} {k:Nat} {e:E} (h:(k,e)∈H):k∈keysY H:=by
 induction H with
 |nil=>cases h
 |cons x H ih=>
  obtain⟨j,e'⟩:=x;simp only [keysY];rcases List.mem_cons.1 h with h|h
  · cases h;exact List.mem_cons_self
  · exact List.mem_cons_of_mem _ (ih h)
theorem findY_of_mem {H:Hy} (hn:(keysY H).Nodup) {k:Nat} {e:E} (h:(k,e)∈H):findY H k=some e:=by
 induction H with
 |nil=>cases h
 |cons x H ih=>
  obtain⟨j,e'⟩:=x;simp only [keysY,List.nodup_cons]at hn;simp only [findY];rcases List.mem_cons.1 h with h|h
  · cases h;simp
  · have hk:=keysY_mem h;have:j≠k:=fun e=>hn.1 (e▸hk)
    rw [beqN this];exact ih hn.2 h
theorem lookY_mem {T:List (Nat×D)} {d:Nat} {x:D} (hx:lookY T d=some x):(d,x)∈T:=by
 induction T with
 |nil=>simp [lookY]at hx
 |cons p T ih=>
  obtain⟨i,y⟩:=p;simp only [lookY]at hx;cases hbq:Nat.beq i d with
  |true=>rw [hbq]at hx;cases hx;have:=beqT hbq;subst this;exact List.mem_cons_self
  |false=>rw [hbq]at hx;exact List.mem_cons_of_mem _ (ih hx)
theorem SubK.rel {sy':Sy} (h:SubK sy sy') (hs:Sim A st sy) (hr:Rel (cx X w0 bor) st a w):∃st',Sim A st' sy'∧Rel (cx X w0 bor) st' a w∧∀b,b∈bs st'.H→b∈bs st.H:=by
 obtain⟨n,hshape,hT,hH⟩:=h.ex;have hs0:=hs.now hr.cls;have hr0:=hr.now;obtain⟨T',H',nk'⟩:=sy';simp only at hT hH;unfold okShape at hshape;split at hshape
 · rename_i h1 h2 h3 h4;simp only at h1 h2 h3 h4;have hkn:=ndB_nodup h1
   let Hn:Hp:=fwH n st.H H'
   let Tn:=fwT st.T T'
   let st':St:=⟨Tn,Hn,nk',w,w.heap.size, []⟩
   --each entry of the shape
   have entO:∀k e,findY H' k=some e→(∀ds ty,e= .blk ds ty→∃b cs,findE st.H k=some (.blk b cs ty)∧findE Hn k=some (.blk b (fwB ds cs) ty)∧RelB (okS A (now st w)) w (keyS (now st w)) (backL n ds) cs)∧
    (∀z m l ty,e= .row z m l ty→(Nat.blt k n=true∧∃v xs,findE st.H k=some (.row v m xs z ty)∧findE Hn k=some (.row v m xs z ty)∧RepL (okS A (now st w)) w l xs∧flatD l=true∧l.length=m*z)∨
     (Nat.blt k n=false∧m=0∧l= []∧findE Hn k=some (.row (.slice none 0 0) 0 [] z ty))):=by
    intro k e he;have hsub:=subHY_find hH he;refine⟨fun ds ty heq=> ?_,fun z m l ty heq=> ?_⟩
    · subst heq;simp only [subEY]at hsub;obtain⟨cs0,hsub,hle⟩:=hsub;obtain⟨e',h5,h6⟩:=hs0.H k _ hsub;cases e' with
      |row=>exact h6.elim
      |mp=>exact h6.elim
      |blk b cs ty'=>
       obtain⟨rfl,h6⟩:=h6;exact⟨b,cs,h5,find_fw_blk h5 he,le_relB _ _ _ hle h6⟩
    · subst heq;simp only [subEY]at hsub;cases hb:Nat.blt k n with
      |true=>
       rw [hb]at hsub;obtain⟨m0,l0,hsub,rfl,rfl⟩:=hsub;obtain⟨e',h5,h6⟩:=hs0.H k _ hsub;cases e' with
       |blk=>exact h6.elim
       |mp=>exact h6.elim
       |row v m' xs z' ty'=>
        obtain⟨rfl,rfl,rfl,h7,h8,h9⟩:=h6;exact .inl ⟨rfl,v,xs,h5,find_fw_row hb h5 he,h7,h8,h9⟩
      |false=>
       rw [hb]at hsub;obtain⟨rfl,rfl⟩:=hsub;exact .inr ⟨rfl,rfl,rfl,find_fw_new hb he⟩
   have entM:∀k es ty,findY H' k=some (.mp es ty)→k<n∧∃b,findE st.H k=some (.mp b es ty)∧findE Hn k=some (.mp b es ty):=by
    intro k es ty he;obtain⟨es0,hsub,rfl⟩:=subHY_find hH he;obtain⟨e',h5,h6⟩:=hs0.H k _ hsub;cases e' with
    |blk=>exact h6.elim
    |row=>exact h6.elim
    |mp b es' ty'=>
     obtain⟨rfl,rfl⟩:=h6;exact⟨inKH_mp h4 he,b,h5,find_fw_mp h5 he⟩
   have hnkk:∀k,memN k (keysY H')=true→k<nk':=fun k hk=>by
    obtain⟨e,he⟩:=memN_keys hk;exact ltY_mem h2 k (keysY_mem (findY_mem he))
   have hz:ShpAt (okS A (now st w)) w n (keysY H') (keyS (now st w)) (keyS st') st.H Hn:=by
    refine⟨fun q j hj hlt hq=>⟨hnkk j hj,fun hq2=> ?_⟩,fun j hj hlt=> ?_,fun j hj hlt=> ?_⟩
    · obtain⟨e,he⟩:=memN_keys hj;obtain⟨er,hrow,hir⟩:=hq.2 hq2;cases e with
      |blk ds ty=>
       obtain⟨b,cs,g1,_⟩:=(entO j _ he).1 ds ty rfl;simp only [now]at hrow;rw [g1]at hrow;cases hrow;cases hir
      |mp es ty=>
       obtain⟨_,b,_,g2⟩:=entM j es ty he;exact⟨_,g2,rfl⟩
      |row z m l ty=>
       rcases(entO j _ he).2 z m l ty rfl with⟨_,v,xs,_,g2,_⟩|⟨g1,_⟩
       · exact⟨_,g2,rfl⟩
       · rw [blt_iff.2 hlt]at g1;cases g1
    · obtain⟨e,he⟩:=memN_keys hj;cases e with
      |blk ds ty=>
       obtain⟨b,cs,g1,g2,_⟩:=(entO j _ he).1 ds ty rfl;simp only [bOf,rowVal,g1,g2];exact⟨trivial,trivial⟩
      |mp es ty=>
       obtain⟨_,b,g1,g2⟩:=entM j es ty he;simp only [bOf,rowVal,g1,g2];exact⟨trivial,trivial⟩
      |row z m l ty=>
       rcases(entO j _ he).2 z m l ty rfl with⟨_,v,xs,g1,g2,_⟩|⟨g1,_⟩
       · simp only [bOf,rowVal,g1,g2];exact⟨trivial,trivial⟩
       · rw [blt_iff.2 hlt]at g1;cases g1
    · obtain⟨e,he⟩:=memN_keys hj;cases e with
      |blk ds ty=>exact absurd (inKH_find h4 he).1 hlt
      |mp es ty=>exact absurd (entM j es ty he).1 hlt
      |row z m l ty=>
       rcases(entO j _ he).2 z m l ty rfl with⟨g1,_⟩|⟨_,_,_,g2⟩
       · exact absurd (blt_iff.1 g1) hlt
       · exact⟨⟨hnkk j hj,fun _=>⟨_,g2,rfl⟩⟩,by simp [rowVal,g2]⟩
   --the entries' source
   have hsrc:∀Hd:Hy,(∀k e,(k,e)∈Hd→(k,e)∈H')→subH st.H Hn (srcOf n Hd) (fwH n st.H Hd):=by
    intro Hd
    induction Hd with
    |nil=>intro _;trivial
    |cons x Hd ih=>
     intro hsubm;obtain⟨k,e⟩:=x;have hmem:=hsubm k e List.mem_cons_self;have he:=findY_of_mem hkn hmem;have ih:=ih fun k e h=>hsubm k e (List.mem_cons_of_mem _ h)
     cases e with
     |blk ds ty=>
      obtain⟨b,cs,g1,g2,g3⟩:=(entO k _ he).1 ds ty rfl;obtain⟨q1,q2⟩:=inKH_find h4 he;simp only [srcOf,fwH,g1,subH];refine⟨?_,ih⟩;simp only [subE];exact⟨trivial,(fw_relB hz ds cs g3 q2).2,trivial⟩
     |mp es ty=>
      obtain⟨_,b,g1,g2⟩:=entM k es ty he;simp only [srcOf,fwH,g1,subH];exact⟨by simp only [subE];exact⟨trivial,trivial,trivial⟩,ih⟩
     |row z m l ty=>
      rcases(entO k _ he).2 z m l ty rfl with⟨hb,v,xs,g1,g2,_⟩|⟨hb,rfl,rfl,g2⟩
      · simp only [srcOf,fwH,hb,g1,subH];exact⟨by simp only [subE];exact⟨trivial,trivial,trivial,trivial,trivial⟩,ih⟩
      · simp only [srcOf,fwH,hb,subH];exact⟨⟨trivial,trivial,trivial⟩,ih⟩
   --the slots
   have hin:=inKT_find h3
   have hent:∀p,p∈T'→∃s0,look st.T p.1=some s0∧s0≠ .bad∧RelD (okS A (now st w)) w (keyS st') p.2 (fwS p.2 s0)∧den Hn (fwS p.2 s0)=den st.H s0:=by
    have hall:∀Td:List (Nat×D),subTY n sy.T Td→∀p,p∈Td→∃y,lookY sy.T p.1=some y∧leD y (back n p.2):=by
     intro Td
     induction Td with
     |nil=>intro _ p hp;cases hp
     |cons q Td ih=>
      intro hq p hp;simp only [subTY]at hq;rcases List.mem_cons.1 hp with rfl|hp
      · exact hq.1
      · exact ih hq.2 p hp
    intro p hp;have hi:=hin p hp;have hbad:p.2≠ .bad:=fun e=>by rw [e]at hi;simp [inK]at hi
    have hbk:back n p.2≠ .bad:=by
     cases hx:p.2<;>simp only [back]<;>first|(intro e;cases e)|skip
     · split<;>(intro e;cases e)
     · exact absurd hx hbad
    obtain⟨y,hy1,hy2⟩:=hall T' hT p hp;rcases hs0.T p.1 y hy1 with e|⟨s,g1,g2⟩
    · subst e;simp only [leD]at hy2;exact absurd hy2.symm hbk
    · have g2:=le_rel _ _ _ hy2 g2;obtain⟨g3,g4⟩:=fw_rel hz p.2 s g2 hi;exact⟨s,g1,g2.ne hbk,g3,g4⟩
   have hsubT:∀Td:List (Nat×D),(∀p,p∈Td→p∈T')→subT st.H Hn st.T (fwT st.T Td)∧∀j,nk'≤j→freshT j (fwT st.T Td)=true:=by
    intro Td
    induction Td with
    |nil=>intro _;exact⟨trivial,fun _ _=>rfl⟩
    |cons q Td ih=>
     intro hm;obtain⟨s0,g1,g2,g3,g4⟩:=hent q (hm q List.mem_cons_self);obtain⟨i1,i2⟩:=ih fun p hp=>hm p (List.mem_cons_of_mem _ hp)
     obtain⟨d,x⟩:=q;simp only at g1 g2 g3 g4;simp only [fwT,g1];refine⟨⟨?_,i1⟩,fun j hj=> ?_⟩
     · rw [g1];cases s0<;>first|exact g4.symm|exact absurd rfl g2
     · have hm0:ment j (fwS x s0)=false:=RelD.ment (fun p hp=>by have:=hp.1;simp only [st']at this;omega) _ _ g3;simp only [freshT,hm0];exact i2 j hj
   obtain⟨k1,k2⟩:=hsubT T' fun _ h=>h
   have hkeys:(Hn.map (·.1))=keysY H':=keys_fw H'
   have hsub:Sub (now st w) st':=by
    refine⟨srcOf n H',k1,hsrc H' (fun _ _ h=>h), ?_,by simp only [st'];rw [hkeys];exact hkn,fun k hk=> ?_⟩
    · have:∀Hd:Hy,(srcOf n Hd).filterMap id=(keysY Hd).filter (fun k=>memN k ((srcOf n Hd).filterMap id))∨True:=fun _=> .inr trivial
      have hsubl:∀Hd:Hy,((srcOf n Hd).filterMap id).Sublist (keysY Hd):=by
       intro Hd
       induction Hd with
       |nil=>exact List.Sublist.slnil
       |cons x Hd ih=>
        obtain⟨k,e⟩:=x;cases e with
        |blk ds ty=>simp only [srcOf,keysY,List.filterMap_cons,id];exact List.Sublist.cons_cons _ ih
        |mp es ty=>simp only [srcOf,keysY,List.filterMap_cons,id];exact List.Sublist.cons_cons _ ih
        |row z m l ty=>
         simp only [srcOf,keysY];cases hb:Nat.blt k n with
         |true=>simp only [List.filterMap_cons,id];exact List.Sublist.cons_cons _ ih
         |false=>simp only [List.filterMap_cons,id];exact List.Sublist.cons _ ih
      exact(hsubl H').nodup hkn
    · simp only [st']at hk;rw [hkeys]at hk;exact ltY_mem h2 k hk
   obtain⟨hrel,hbs⟩:=hsub.rel hr0 ⟨rfl,rfl,rfl⟩;have hok:∀b,okS A (now st w) b→okS A st' b∧w.heap[b]?=w.heap[b]?:=fun b hb=>⟨⟨⟨.inl hb.2.1,hb.1.2⟩,hb.2.1,fun c hc=>hb.2.2 c (hbs c hc)⟩,rfl⟩
   refine⟨st',⟨fun d x hx=> ?_,fun k e he=> ?_,rfl,k2,fun j hj=> ?_⟩,hrel,hbs⟩
   · right;have hp:(d,x)∈T':=lookY_mem hx;obtain⟨s0,g1,g2,g3,g4⟩:=hent _ hp;exact⟨fwS x s0,look_fwT hx g1,RelD.mono hok (fun _ _ h=>h) _ _ g3⟩
   · cases e with
     |blk ds ty=>
      obtain⟨b,cs,g1,g2,g3⟩:=(entO k _ he).1 ds ty rfl;obtain⟨q1,q2⟩:=inKH_find h4 he;exact⟨_,g2,by exact⟨rfl,RelDL.mono hok (fun _ _ h=>h) _ _ (fw_relB hz ds cs g3 q2).1⟩⟩
     |mp es ty=>
      obtain⟨_,b,_,g2⟩:=entM k es ty he;exact⟨_,g2,by exact⟨rfl,rfl⟩⟩
     |row z m l ty=>
      rcases(entO k _ he).2 z m l ty rfl with⟨hb,v,xs,g1,g2,g3,g4,g5⟩|⟨hb,rfl,rfl,g2⟩
      · exact⟨_,g2,by exact⟨rfl,rfl,rfl,RepL.mono hok _ _ g3,g4,g5⟩⟩
      · exact⟨_,g2,by exact⟨rfl,rfl,rfl,trivial,rfl,by simp⟩⟩
   · have hfr:∀Hd:Hy,(∀k e,(k,e)∈Hd→(k,e)∈H')→freshH j (fwH n st.H Hd)=true:=by
      intro Hd
      induction Hd with
      |nil=>intro _;rfl
      |cons x Hd ih=>
       intro hsubm;obtain⟨k,e⟩:=x;have he:=findY_of_mem hkn (hsubm k e List.mem_cons_self);have ih:=ih fun k e h=>hsubm k e (List.mem_cons_of_mem _ h)
       cases e with
       |blk ds ty=>
        obtain⟨b,cs,g1,g2,g3⟩:=(entO k _ he).1 ds ty rfl;obtain⟨q1,q2⟩:=inKH_find h4 he;simp only [fwH,g1];refine freshH_cons ?_ ih;simp only [freshE,Bool.not_eq_true'];exact(fw_relB hz ds cs g3 q2).1.ment fun p hp=>by have:=hp.1;simp only [st']at this hj;omega
       |mp es ty=>
        simp only [fwH];split<;>exact freshH_cons rfl ih
       |row z m l ty=>
        simp only [fwH];split<;>exact freshH_cons rfl ih
     exact hfr H' fun _ _ h=>h
 · cases hshape
theorem SubR.rel {sy':Sy} (h:SubR sy sy') (hs:Sim A st sy) (hr:Rel (cx X w0 bor) st a w):∃st',Sim A st' sy'∧Rel (cx X w0 bor) st' a w∧∀b,b∈bs st'.H→b∈bs st.H:=by
 rcases h.ex with h|⟨p,q,m,⟨hp,hq⟩,h1,h2⟩
 · exact h.rel hs hr
 · obtain⟨st1,s1,r1,b1⟩:=h1.rel hs hr;have hm:st1.nk=m:=s1.nk.symm;obtain⟨s2,r2⟩:=sw_ok (a:=p) (b:=q) (by rw [hm];exact blt_iff.1 hp) (by rw [hm];exact blt_iff.1 hq) s1 r1;simp only [swTY_swTY,swHY_swHY]at s2;obtain⟨st3,s3,r3,b3⟩:=h2.rel s2 r2;exact⟨st3,s3,r3,fun b hb=>b1 b (by have:=b3 b hb;simp only [swSt,bs_sw]at this;exact this)⟩
theorem SubY.rel {sy':Sy} (hA:AG A X.P w0 bor) (h:SubY sy sy') (hs:Sim A st sy) (hr:Rel (cx X w0 bor) st a w):∃st',Sim A st' sy'∧Rel (cx X w0 bor) st' a w∧∀b,b∈bs st'.H→b∈bs st.H:=by
 obtain⟨ks,sy1,hf,hk⟩:=h.ex;obtain⟨st1,s1,hr1,b1⟩:=fz_rel1 hA hf hs hr;obtain⟨st2,h1,h2,h3⟩:=hk.rel s1 hr1;exact⟨st2,h1,h2,fun b hb=>b1 b (h3 b hb)⟩
end
section
variable {A : Nat → Prop} {X : Cy} {w0 : World} {bor : List Nat} {st : St} {sy : Sy} {a : Act} {w : World}
theorem resY_sim (hs:Sim A st sy):∀ {rs:List ResultVar} {l:List D},resY X sy rs=some l→∃l',resOf (cx X w0 bor) st rs=some l'∧RelDL (okS A st) st.w (keyS st) l l'
 | [],l,h=>by simp only [resY]at h;cases h;exact⟨[],rfl,trivial⟩
 | .tmp t::rs,l,h=>by
  simp only [resY]at h;split at h
  · cases h
  · rename_i x l1 hb hx hl;cases h;obtain⟨l',h1,h2⟩:=resY_sim hs hl;obtain⟨hlt,hx⟩:=lookRY_some hx;rcases hs.T t x hx with e|⟨s,h3,h4⟩
    · exact absurd e hb
    · have hsb:=h4.ne hb;refine⟨s::l', ?_,h4,h2⟩;simp only [resOf,lookR_of hlt,h3,h1]
      try (cases s<;>first|rfl|exact absurd rfl hsb)
  · cases h
 | .cell b t::rs,l,h=>by
  simp only [resY]at h;split at h
  · rename_i i k o l1 hi hx hl;obtain⟨l',h1,h2⟩:=resY_sim hs hl;split at h
    · rename_i cs ty hf;obtain⟨e',hf',he⟩:=hs.H _ _ hf;cases e' with
      |row=>exact he.elim
      |mp=>exact he.elim
      |blk b' cs' ty'=>
       split at h
       · rename_i c hc;split at h
         · rename_i x hm;cases h;obtain⟨r,h3,h4⟩:=(he.2.dropD o).takeD hc;obtain⟨s,h5,h6⟩:=mkD_rel h4 hm;obtain⟨hlt,hx⟩:=lookRY_some hx;rcases hs.T b _ hx with e|⟨s0,h7,h8⟩
           · cases e
           · simp only [RelD]at h8;obtain⟨rfl,_⟩:=h8;exact⟨s::l',by simp only [resOf,cx,hi,lookR_of hlt,h7];rw [show resOf ⟨X.P,X.tt,w0,bor,X.nt,X.pl,X.dfs,X.sv⟩ st rs=some l' from h1];simp only [hf',h3,h5],h6,h2⟩
         · cases h
       · cases h
    · cases h
  · cases h
theorem zipY_look {n:Nat} {l:List D} {d:Nat} {s:D} (h:lookY (zipY n l) d=some s):n≤d∧l[d-n]?=some s:=by
 induction l generalizing n with
 |nil=>simp [zipY,lookY]at h
 |cons x l ih=>
  simp only [zipY,lookY]at h;cases hb:Nat.beq n d with
  |true=>rw [hb]at h;cases h;have:=beqT hb;subst this;simp
  |false=>
   rw [hb]at h;obtain⟨h1,h2⟩:=ih h;have hne:=beqF hb;have:d-n=(d-(n+1))+1:=by omega
   rw [this];exact⟨by omega,by simpa using h2⟩
theorem look_zip {n d:Nat} {l:List SV} {s:SV} (hd:n≤d) (h:l[d-n]?=some s):look (zipT n l) d=some s:=by
 induction l generalizing n with
 |nil=>simp at h
 |cons x l ih=>
  simp only [zipT,look];cases hb:Nat.beq n d with
  |true=>have:=beqT hb;subst this;simpa using h
  |false=>
   have hne:=beqF hb;have:d-n=(d-(n+1))+1:=by omega
   rw [this]at h;exact ih (by omega) (by simpa using h)
theorem freshT_zip {j n:Nat} {l:List Value}:freshT j (zipT n (vs l))=true:=by
 induction l generalizing n with
 |nil=>rfl
 |cons x l ih=>simp only [vs,zipT,freshT,ment];exact ih
theorem look_append {l r:List (Nat×SV)} {d:Nat}:look (l++r) d=match look l d with|some s=>some s|none=>look r d:=by
 induction l with
 |nil=>rfl
 |cons x l ih=>
  obtain⟨e,s⟩:=x;simp only [List.cons_append,look];cases Nat.beq e d with
  |true=>rfl
  |false=>exact ih
theorem lookY_append {l r:List (Nat×D)} {d:Nat}:lookY (l++r) d=match lookY l d with|some s=>some s|none=>lookY r d:=by
 induction l with
 |nil=>rfl
 |cons x l ih=>
  obtain⟨e,s⟩:=x;simp only [List.cons_append,lookY];cases Nat.beq e d with
  |true=>rfl
  |false=>exact ih
theorem blt_t {a b:Nat} (h:Nat.blt a b=true):a<b:=by simpa [Nat.blt_eq]using h
theorem blt_f {a b:Nat} (h:Nat.blt a b=false):¬a<b:=fun hl=>by
 have:Nat.blt a b=true:=by rw [Nat.blt_eq];exact hl
 rw [h]at this;cases this
def lookG {α:Type}:List (Nat×α)→Nat→Option α
 | [],_=>none
 |(d,s)::T,k=>match Nat.beq d k with|true=>some s|false=>lookG T k
theorem look_G (T:List (Nat×SV)) (d:Nat):look T d=lookG T d:=by
 induction T with
 |nil=>rfl
 |cons p T ih=>obtain⟨e,s⟩:=p;simp only [look,lookG];cases Nat.beq e d;exact ih;rfl
theorem lookY_G (T:List (Nat×D)) (d:Nat):lookY T d=lookG T d:=by
 induction T with
 |nil=>rfl
 |cons p T ih=>obtain⟨e,s⟩:=p;simp only [lookY,lookG];cases Nat.beq e d;exact ih;rfl
section
variable {α : Type} {nt : Nat}
theorem shift_lo (hn:nt≤1000000) (T:List (Nat×α)) {e:Nat} (h:e<1000000):lookG (shiftT nt T) e=none:=by
 induction T with
 |nil=>rfl
 |cons p T ih=>
  obtain⟨d,y⟩:=p;simp only [shiftT];split
  · rename_i hb;have:=blt_t hb;have hne:Nat.beq (Nat.add 1000000 d) e=false:=beqN (by show 1000000+d≠e;omega);simp only [lookG,hne,ih]
  · split
    · exact ih
    · rename_i hc;have:=blt_f hc;have hne:Nat.beq (Nat.add d nt) e=false:=beqN (by show d+nt≠e;omega);simp only [lookG,hne,ih]
theorem shift_mid (hn:nt≤1000000) (T:List (Nat×α)) {e:Nat} (h:e<nt):lookG (shiftT nt T) (1000000+e)=lookG T e:=by
 induction T with
 |nil=>rfl
 |cons p T ih=>
  obtain⟨d,y⟩:=p;simp only [shiftT];split
  · simp only [lookG];by_cases he:d=e
    · subst he;have h1:Nat.beq (Nat.add 1000000 d) (1000000+d)=true:=Nat.beq_refl _;have h2:Nat.beq d d=true:=Nat.beq_refl _;rw [h1,h2]
    · have h1:Nat.beq (Nat.add 1000000 d) (1000000+e)=false:=beqN (by show 1000000+d≠_;omega);rw [h1,beqN he];exact ih
  · rename_i hb;have hb:=blt_f hb;have hne:Nat.beq d e=false:=beqN (by omega);split
    · simp only [lookG,hne,ih]
    · rename_i hc;have:=blt_f hc;have h1:Nat.beq (Nat.add d nt) (1000000+e)=false:=beqN (by show d+nt≠_;omega);simp only [lookG,hne,h1,ih]
theorem shift_hi (hn:nt≤1000000) (T:List (Nat×α)) {e:Nat} (h:1000000≤e):lookG (shiftT nt T) (e+nt)=lookG T e:=by
 induction T with
 |nil=>rfl
 |cons p T ih=>
  obtain⟨d,y⟩:=p;simp only [shiftT];split
  · rename_i hb;have:=blt_t hb;have h1:Nat.beq (Nat.add 1000000 d) (e+nt)=false:=beqN (by show 1000000+d≠_;omega);have hne:Nat.beq d e=false:=beqN (by omega);simp only [lookG,hne,h1,ih]
  · split
    · rename_i hc;have:=blt_t hc;have hne:Nat.beq d e=false:=beqN (by omega);simp only [lookG,hne,ih]
    · simp only [lookG];by_cases he:d=e
      · subst he;have h1:Nat.beq (Nat.add d nt) (d+nt)=true:=Nat.beq_refl _;have h2:Nat.beq d d=true:=Nat.beq_refl _;rw [h1,h2]
      · have h1:Nat.beq (Nat.add d nt) (e+nt)=false:=beqN (by show d+nt≠_;omega);rw [h1,beqN he];exact ih
theorem unshift_mid (hn:nt≤1000000) (T:List (Nat×α)) {e:Nat} (h:e<nt):lookG (unshiftT nt T) e=lookG T (1000000+e):=by
 induction T with
 |nil=>rfl
 |cons p T ih=>
  obtain⟨d,y⟩:=p;simp only [unshiftT];split
  · rename_i hb;have:=blt_t hb;have h1:Nat.beq d (1000000+e)=false:=beqN (by omega);simp only [lookG,h1,ih]
  · rename_i hb;have hb:=blt_f hb;split
    · rename_i hc;have hc:d<1000000+nt:=blt_t hc;simp only [lookG];by_cases he:d=1000000+e
      · have h1:Nat.beq (Nat.mod d 1000000) e=true:=by rw [Nat.beq_eq];show d % 1000000=e;omega
        have h2:Nat.beq d (1000000+e)=true:=by rw [Nat.beq_eq];exact he
        rw [h1,h2]
      · have h1:Nat.beq (Nat.mod d 1000000) e=false:=beqN (by show d % 1000000≠e;omega);rw [h1,beqN he];exact ih
    · rename_i hc;have hc:¬d<1000000+nt:=blt_f hc;have h1:Nat.beq (Nat.sub d nt) e=false:=beqN (by show d-nt≠e;omega);have h2:Nat.beq d (1000000+e)=false:=beqN (by omega);simp only [lookG,h1,h2,ih]
theorem unshift_hi (hn:nt≤1000000) (T:List (Nat×α)) {e:Nat} (h:1000000≤e):lookG (unshiftT nt T) e=lookG T (e+nt):=by
 induction T with
 |nil=>rfl
 |cons p T ih=>
  obtain⟨d,y⟩:=p;simp only [unshiftT];split
  · rename_i hb;have:=blt_t hb;have h1:Nat.beq d (e+nt)=false:=beqN (by omega);simp only [lookG,h1,ih]
  · rename_i hb;have hb:=blt_f hb;split
    · rename_i hc;have hc:d<1000000+nt:=blt_t hc;have h1:Nat.beq (Nat.mod d 1000000) e=false:=beqN (by show d % 1000000≠e;omega);have h2:Nat.beq d (e+nt)=false:=beqN (by omega);simp only [lookG,h1,h2,ih]
    · rename_i hc;have hc:¬d<1000000+nt:=blt_f hc;simp only [lookG];by_cases he:d=e+nt
      · have h1:Nat.beq (Nat.sub d nt) e=true:=by rw [Nat.beq_eq];show d-nt=e;omega
        have h2:Nat.beq d (e+nt)=true:=by rw [Nat.beq_eq];exact he
        rw [h1,h2]
      · have h1:Nat.beq (Nat.sub d nt) e=false:=beqN (by show d-nt≠e;omega);rw [h1,beqN he];exact ih
theorem unshift_no (hn:nt≤1000000) (T:List (Nat×α)) {e:Nat} (h:¬e<nt) (h':e<1000000):lookG (unshiftT nt T) e=none:=by
 induction T with
 |nil=>rfl
 |cons p T ih=>
  obtain⟨d,y⟩:=p;simp only [unshiftT];split
  · exact ih
  · rename_i hb;have hb:=blt_f hb;split
    · rename_i hc;have hc:d<1000000+nt:=blt_t hc;have h1:Nat.beq (Nat.mod d 1000000) e=false:=beqN (by show d % 1000000≠e;omega);simp only [lookG,h1,ih]
    · rename_i hc;have hc:¬d<1000000+nt:=blt_f hc;have h1:Nat.beq (Nat.sub d nt) e=false:=beqN (by show d-nt≠e;omega);simp only [lookG,h1,ih]
end
theorem fresh_shift {j nt:Nat} {T:List (Nat×SV)} (h:freshT j T=true):freshT j (shiftT nt T)=true:=by
 induction T with
 |nil=>rfl
 |cons p T ih=>
  obtain⟨d,y⟩:=p;simp only [freshT]at h;split at h
  · cases h
  · rename_i hm;simp only [shiftT];split
    · simp only [freshT,hm];exact ih h
    · split
      · exact ih h
      · simp only [freshT,hm];exact ih h
theorem fresh_unshift {j nt:Nat} {T:List (Nat×SV)} (h:freshT j T=true):freshT j (unshiftT nt T)=true:=by
 induction T with
 |nil=>rfl
 |cons p T ih=>
  obtain⟨d,y⟩:=p;simp only [freshT]at h;split at h
  · cases h
  · rename_i hm;simp only [unshiftT];split
    · exact ih h
    · split
      · simp only [freshT,hm];exact ih h
      · simp only [freshT,hm];exact ih h
theorem fresh_zip {j:Nat}:∀ {n:Nat} {l:List SV},mentL j l=false→freshT j (zipT n l)=true
 |_, [],_=>rfl
 |n,x::l,h=>by
  simp only [mentL]at h;split at h
  · cases h
  · rename_i hm;simp only [zipT,freshT,hm];exact fresh_zip h
theorem fresh_app {j:Nat} {l r:List (Nat×SV)} (hl:freshT j l=true) (hr:freshT j r=true):freshT j (l++r)=true:=by
 induction l with
 |nil=>exact hr
 |cons p l ih=>
  obtain⟨d,y⟩:=p;simp only [freshT]at hl;split at hl
  · cases hl
  · rename_i hm;simp only [List.cons_append,freshT,hm];exact ih hl
theorem resY_tt {X X':Cy} (h:X.tt=X'.tt) (st:Sy) (rs:List ResultVar):resY X st rs=resY X' st rs:=by
 induction rs with
 |nil=>rfl
 |cons r rs ih=>cases r<;>simp only [resY,ih,h]
theorem RelDL.get {ok:Nat→Prop} {w:World} {R:Bool→Nat→Prop} {l:List D} {r:List SV} (h:RelDL ok w R l r) {i:Nat} {x:D} (hx:l[i]?=some x):∃s,r[i]?=some s∧RelD ok w R x s:=by
 induction l generalizing r i with
 |nil=>simp at hx
 |cons d l ih=>cases r with
  |nil=>simp [RelDL]at h
  |cons y r=>
   simp only [RelDL]at h;cases i with
   |zero=>simp at hx;subst hx;exact⟨y,rfl,h.1⟩
   |succ i=>simp at hx;simpa using ih h.2 hx
theorem look_shift_inv {nt:Nat} (hn:nt≤1000000) {T:List (Nat×SV)} {d:Nat} {s:SV} (h:look (shiftT nt T) d=some s):(∃e,d=1000000+e∧e<nt∧look T e=some s)∨(∃e,d=e+nt∧1000000≤e∧look T e=some s):=by
 rw [look_G]at h;by_cases h1:d<1000000
 · rw [shift_lo hn _ h1]at h;cases h
 · by_cases h2:d<1000000+nt
   · obtain⟨e,rfl⟩:∃e,d=1000000+e:=⟨d-1000000,by omega⟩;rw [shift_mid hn _ (by omega)]at h;exact .inl ⟨e,rfl,by omega,by rw [look_G];exact h⟩
   · obtain⟨e,rfl⟩:∃e,d=e+nt:=⟨d-nt,by omega⟩;rw [shift_hi hn _ (by omega)]at h;exact .inr ⟨e,rfl,by omega,by rw [look_G];exact h⟩
theorem lookY_shift_inv {nt:Nat} (hn:nt≤1000000) {T:List (Nat×D)} {d:Nat} {s:D} (h:lookY (shiftT nt T) d=some s):(∃e,d=1000000+e∧e<nt∧lookY T e=some s)∨(∃e,d=e+nt∧1000000≤e∧lookY T e=some s):=by
 rw [lookY_G]at h;by_cases h1:d<1000000
 · rw [shift_lo hn _ h1]at h;cases h
 · by_cases h2:d<1000000+nt
   · obtain⟨e,rfl⟩:∃e,d=1000000+e:=⟨d-1000000,by omega⟩;rw [shift_mid hn _ (by omega)]at h;exact .inl ⟨e,rfl,by omega,by rw [lookY_G];exact h⟩
   · obtain⟨e,rfl⟩:∃e,d=e+nt:=⟨d-nt,by omega⟩;rw [shift_hi hn _ (by omega)]at h;exact .inr ⟨e,rfl,by omega,by rw [lookY_G];exact h⟩
theorem zipT_none {n d:Nat} {l:List SV} (h:d<n∨n+l.length≤d):look (zipT n l) d=none:=by
 induction l generalizing n with
 |nil=>rfl
 |cons x l ih=>
  simp only [List.length_cons]at h;simp only [zipT,look,beqN (show n≠d by omega)];exact ih (by omega)
theorem callIn_seq (hA:AG A X.P w0 bor) (hP:POK X.P X.tt) {o:Oper} {Q:Exit→Act→World→Prop} {KY:Sy→Prop} {f:FuncId} {args:List D} {args':List SV} (hr:Rel (cx X w0 bor) st a w) (hs:Sim A st sy) (ha:RelDL (okS A st) st.w (keyS st) args args')
 (h:CallIn X f args o.dst sy KY) (hout:OutOK (cx X w0 bor) st a o (.call f args')):o.wp X.P a w (LvY A (cx X w0 bor) st.H w KY) Q:=by
 obtain⟨nt,pl,ln,un,inl,fn,c,st0,st1,⟨hf,hb,hnt,hg,hl⟩,hsub,hbody,hk⟩:=h.ex;have hg:nt≤1000000:=Nat.le_of_ble_eq_true hg;have hl:args.length≤nt:=Nat.le_of_ble_eq_true hl;have hlen:=ha.length;have hXn:X.nt≤1000000:=hr.size.2;have hXs:a.tmps.size=X.nt:=hr.size.1;generalize hX':(⟨X.P,X.tt,nt,pl,ln,un, [],inl, []⟩:Cy)=X' at hbody;have hP':X'.P=X.P:=by rw [←hX']
 have htt:X'.tt=X.tt:=by rw [←hX']
 have hn':X'.nt=nt:=by rw [←hX']
 have hd':X'.dfs= []:=by rw [←hX']
 generalize hsv:a.tmps.toList++X.sv=sv
 have hrc:Rel (cx { X' with sv:=sv} w0 bor) ⟨zipT 0 args'++shiftT X.nt st.T,st.H,st.nk,st.w,st.lo,st.iv⟩ { tmps:=(denL st.H args').toArray++Array.replicate (fn.ntmps-(denL st.H args').toArray.size) undef,defers:= []} w:=by
  refine⟨⟨by simp [cx,hn',denL_length,←hlen];omega,by simp only [cx,hn'];exact hg⟩,fun d s hs=> ?_,by simp [cx,hd'],⟨hr.cls.fx,hr.cls.fx0,hr.cls.own,hr.cls.nd,hr.cls.lb,hr.cls.keys,hr.cls.lt⟩,hr.lo,hr.iv⟩;simp only [look_append]at hs;split at hs
  · rename_i s' hz;cases hs;obtain⟨_,h2⟩:=zipT_look (n:=0) hz;simp only [Nat.sub_zero]at h2;have hlt:d<args'.length:=(List.getElem?_eq_some_iff.1 h2).1;right;have h3:(denL st.H args')[d]?=some (den st.H s):=by rw [denL_get,h2];rfl
    rw [slotv,if_pos (show d<1000000 by omega),Array.getElem?_append_left (by simp [denL_length];exact hlt)];simpa using h3
  · rcases look_shift_inv hXn hs with⟨e,rfl,he,hl'⟩|⟨e,rfl,he,hl'⟩
    · rcases hr.T e s hl' with h|h
      · exact .inl h
      · right;rw [slotv,if_pos (show e<1000000 by omega)]at h;rw [slotv,if_neg (by simp)];simp only [cx,←hsv];rw [show 1000000+e-gbase=e by simp,List.getElem?_append_left (by simp [hXs];exact he)];simpa using h
    · rcases hr.T e s hl' with h|h
      · exact .inl h
      · right;rw [slotv,if_neg (show¬e<1000000 by omega)]at h;rw [slotv,if_neg (show¬e+X.nt<1000000 by omega)];simp only [cx,←hsv];rw [List.getElem?_append_right (by simp [hXs,gbase];omega)];rw [show e+X.nt-gbase-a.tmps.toList.length=e-gbase by simp [hXs,gbase];omega];exact h
 have hsc:Sim A ⟨zipT 0 args'++shiftT X.nt st.T,st.H,st.nk,st.w,st.lo,st.iv⟩ ⟨zipY 0 args++shiftT X.nt sy.T,sy.H,sy.nk⟩:=by
  refine⟨fun d x hx=> ?_,hs.H,hs.nk,fun j hj=> ?_,hs.fH⟩
  · simp only [lookY_append]at hx;split at hx
    · rename_i x' hz;cases hx;obtain⟨_,h2⟩:=zipY_look hz;simp only [Nat.sub_zero]at h2;obtain⟨s,h3,h4⟩:=ha.get h2;exact .inr ⟨s,by simp only [look_append,look_zip (Nat.zero_le _) (show args'[d-0]?=some s from h3)],h4⟩
    · rcases lookY_shift_inv hXn hx with⟨e,rfl,he,hl'⟩|⟨e,rfl,he,hl'⟩
      · rcases hs.T e x hl' with h|⟨s,h1,h2⟩
        · exact .inl h
        · refine .inr ⟨s, ?_,h2⟩;simp only [look_append,zipT_none (n:=0) (l:=args') (d:=1000000+e) (.inr (by omega))];rw [look_G,shift_mid hXn _ he,←look_G];exact h1
      · rcases hs.T e x hl' with h|⟨s,h1,h2⟩
        · exact .inl h
        · refine .inr ⟨s, ?_,h2⟩;simp only [look_append,zipT_none (n:=0) (l:=args') (d:=e+X.nt) (.inr (by omega))];rw [look_G,shift_hi hXn _ he,←look_G];exact h1
  · exact fresh_app (fresh_zip (ha.ment fun q=>not_key hj q)) (fresh_shift (hs.fT j hj))
 have hA2:AG A X'.P w0 bor:=by rw [hP'];exact hA
 obtain⟨st0',hs0,hr0,hb0⟩:=hsub.rel (X:= { X' with sv:=sv}) hA2 hsc hrc
 have hcall:Calls X.P f (denL st.H args').toArray w fun e w'=>∃v,e= .returned v∧LvY A (cx X w0 bor) st.H w KY (a.put o.dst v) w':=by
  refine calls_of_wp hf hb (hP'▸hbody A w0 bor sv st0' _ w _ hA2 hs0 hr0 fun e st' sy' a' w' hp hk' hs' hlv=> ?_);obtain⟨T,H,nk⟩:=sy'
  have fin:(match resY X' ⟨T,H,nk⟩ fn.results.toList with
   |some l=>putY X ⟨unshiftT X.nt T,H,nk⟩ o.dst (resD l) fun sy=>SubY sy st1
   |none=>False)→a'.defers= []∧∃v,(results fn a'.tmps).run X.P w'= .ok v w'∧∃v1,Ending.returned v= .returned v1∧LvY A (cx X w0 bor) st.H w KY (a.put o.dst v1) w':=by
   intro hk';cases hres:resY X' ⟨T,H,nk⟩ fn.results.toList with
   |none=>rw [hres]at hk';exact hk'.elim
   |some l=>
    rw [hres]at hk';simp only at hk';rw [resY_tt (X:=X') (X':= { X' with sv:=sv}) rfl]at hres
    obtain⟨l',h1,h2⟩:=resY_sim (w0:=w0) (bor:=bor) hs' hres;have hrun:=results_ok (X:=cx { X' with sv:=sv} w0 bor) (by simp only [cx];rw [hP',htt];exact hP.tt) hlv.rel h1
    have hrun:(results fn a'.tmps).run X.P w'= .ok (retV st'.H l') w':=by rw [←hP'];exact hrun
    have hrd:∃s,RelD (okS A st') st'.w (keyS st') (resD l) s∧den st'.H s=retV st'.H l':=by
     match l,l',h2 with
     | [x], [s],h2=>exact⟨s,h2.1,rfl⟩
     | [], [],h2=>exact⟨.tup [],by simp only [resD,RelD];exact .inl ⟨[],rfl,trivial⟩,by simp [den,retV]⟩
     |x::y::l,x'::y'::l',h2=>exact⟨.tup (x'::y'::l'),by simp only [resD,RelD];exact .inl ⟨_,rfl,h2⟩,by simp [den,retV]⟩
     | [],_::_,h2=>simp [RelDL]at h2
     | [_], [],h2=>simp [RelDL]at h2
     | [_],_::_::_,h2=>simp [RelDL]at h2
     |_::_::_, [],h2=>simp [RelDL]at h2
     |_::_::_, [_],h2=>simp [RelDL]at h2
    obtain⟨s,hrd,hden⟩:=hrd;refine⟨hlv.rel.dfs.trans hd',_,hrun,_,rfl, ?_⟩;have hrl:=hlv.rel
    have hrr:Rel (cx X w0 bor) ⟨unshiftT X.nt st'.T,st'.H,st'.nk,st'.w,st'.lo,st'.iv⟩ a w':=by
     refine⟨hr.size,fun d s hl=> ?_,hr.dfs,⟨hrl.cls.fx,hrl.cls.fx0,hrl.cls.own,hrl.cls.nd,hrl.cls.lb,hrl.cls.keys,hrl.cls.lt⟩,hrl.lo,hrl.iv⟩;rw [look_G]at hl;by_cases c1:d<X.nt
     · rw [unshift_mid hXn _ c1,←look_G]at hl;rcases hrl.T _ _ hl with h|h
       · exact .inl h
       · right;rw [slotv,if_neg (by simp)]at h;simp only [cx,←hsv]at h;rw [show 1000000+d-gbase=d by simp,List.getElem?_append_left (by simp [hXs];exact c1)]at h;rw [slotv,if_pos (show d<1000000 by omega)];simpa using h
     · by_cases c2:d<1000000
       · rw [unshift_no hXn _ c1 c2]at hl;cases hl
       · rw [unshift_hi hXn _ (by omega),←look_G]at hl;rcases hrl.T _ _ hl with h|h
         · exact .inl h
         · right;rw [slotv,if_neg (show¬d+X.nt<1000000 by omega)]at h;simp only [cx,←hsv]at h;rw [List.getElem?_append_right (by simp [hXs,gbase];omega)]at h;rw [show d+X.nt-gbase-a.tmps.toList.length=d-gbase by simp [hXs,gbase];omega]at h;rw [slotv,if_neg c2];exact h
    have hsr:Sim A ⟨unshiftT X.nt st'.T,st'.H,st'.nk,st'.w,st'.lo,st'.iv⟩ ⟨unshiftT X.nt T,H,nk⟩:=by
     refine⟨fun d x hx=> ?_,hs'.H,hs'.nk,fun j hj=>fresh_unshift (hs'.fT j hj),hs'.fH⟩;simp only at hx;rw [lookY_G]at hx;by_cases c1:d<X.nt
     · rw [unshift_mid hXn _ c1,←lookY_G]at hx;rcases hs'.T _ _ hx with h|⟨s,h1,h2⟩
       · exact .inl h
       · exact .inr ⟨s,by simp only;rw [look_G,unshift_mid hXn _ c1,←look_G];exact h1,h2⟩
     · by_cases c2:d<1000000
       · rw [unshift_no hXn _ c1 c2]at hx;cases hx
       · rw [unshift_hi hXn _ (by omega),←lookY_G]at hx;rcases hs'.T _ _ hx with h|⟨s,h1,h2⟩
         · exact .inl h
         · exact .inr ⟨s,by simp only;rw [look_G,unshift_hi hXn _ (by omega),←look_G];exact h1,h2⟩
    obtain⟨st2,⟨sy2,k1,k2⟩,k3,k4⟩:=put_ok hrr (putY_sim (w0:=w0) (bor:=bor) hk' hsr hrd) (v:=retV st'.H l') (.inr hden.symm);obtain⟨st3,hs3,hr3,hb3⟩:=k1.rel hA k2 k3;refine⟨st3,st1,hk,hs3,hr3,hlv.fx.wide fun b hb=>hb0 b hb,fun b hb=> ?_⟩;have:=hb3 b hb;rw [k4]at this;rcases hlv.bs b this with h|h
    · exact .inl (hb0 b h)
    · exact .inr h
  cases e with
  |normal=>rw [hP'];exact fin hk'
  |ret=>rw [hP'];exact fin hk'
  |exit j=>exact hk'.elim
  |goto l=>exact hp.elim
  |panic c=>exact hp.elim
  |outgrown=>exact hp.elim
 have hbody:=calls_body hcall fun e w' ⟨v,he,_⟩=>⟨v,he⟩
 unfold Oper.wp;rw [show(execOp a.eval o).run X.P w=_ from hout w hbody];simp only [Oper.upon];refine hcall.mono fun e w' ⟨v,he,hh⟩=> ?_
 subst he;exact hh
theorem opY_ok (hA:AG A X.P w0 bor) (hP:POK X.P X.tt) {o:Oper} {Q:Exit→Act→World→Prop} {KY:Sy→Prop} (hy:y1 X sy o.op (finY X true sy o.dst KY)) (hs:Sim A st sy) (hr:Rel (cx X w0 bor) st a w):o.wp X.P a w (LvY A (cx X w0 bor) st.H w KY) Q:=by
 have hev:=y1_sim (X:=X) (w0:=w0) (bor:=bor) (st:=st) (K:=fun out=>∃oy,RelOut st.H (okS A st) st.w (keyS st) oy out∧finY X true sy o.dst KY oy) (fun oy out h1 h2=>⟨oy,h1,h2⟩) (zOK hP) hs hy;obtain⟨out,⟨oy,hro,hfin⟩,hout⟩:=ev1_ok (X:=cx X w0 bor) hP.tt hP.ng hr.ev (rowsOK_of hr.cls) hev;by_cases hcall:∃f args,out= .call f args
 · obtain⟨f,args',rfl⟩:=hcall;cases oy<;>try exact hro.elim
   obtain⟨rfl,hargs⟩:=hro;simp only [finY]at hfin;split at hfin
   · exact callIn_seq hA hP hr hs hargs hfin hout
   · exact callY_seq hA hr hs hargs hfin hout
 · have hf:=finY_sim (w0:=w0) (bor:=bor) hA hfin hro hs (.inr fun f args e=>hcall ⟨f,args,e⟩);refine Oper.wp_mono (fun a' w' hl=> ?_) (fin_ok (X:=cx X w0 bor) (Q:=Q) hP.tt hf hout hr);obtain⟨st2,⟨sy2,hK2,hs2⟩,hr2,hf0,hb0⟩:=hl;exact⟨st2,sy2,hK2,hs2,hr2,hf0.wide (fun b h=>chB_bs b h),hb0.bs⟩
theorem opO_ok (hA:AG A X.P w0 bor) (hP:POK X.P X.tt) {o:Oper} {Q:Exit→Act→World→Prop} {KY:Sy→Prop} (hy:stepO X sy o KY) (hs:Sim A st sy) (hr:Rel (cx X w0 bor) st a w):o.wp X.P a w (LvY A (cx X w0 bor) st.H w KY) Q:=
 stepO_ok hA hP hy (fun _ _ h hs hr=>opY_ok hA hP h hs hr) hs hr
theorem opsY_ok (hA:AG A X.P w0 bor) (hP:POK X.P X.tt) {ops:Array Oper} {Q:Exit→Act→World→Prop}:∀(rest:List Oper) (st:St) (sy:Sy) (a:Act) (w:World) (K:Sy→Prop),opsY X ops.toList rest sy K→Sim A st sy→Rel (cx X w0 bor) st a w→
 (∀st' sy' a' w',K sy'→Sim A st' sy'→Lv (cx X w0 bor) st.H w st' a' w'→Q .normal a' w')→wpList X.P ops Q rest a w
 | [],st,sy,a,w,K,h,hs,hr,hQ=>hQ st sy a w h hs (Lv.refl hr)
 |o::rest,st,sy,a,w,K,h,hs,hr,hQ=>by
  simp only [opsY]at h;have hg:=guard_sim (yes:=fun st'=>∃sy',Sim A st' sy'∧stepO X sy' o fun st=>opsY X ops.toList rest st K) (no:=fun st'=>∃sy',Sim A st' sy'∧putY X sy' o.dst .und fun st=>opsY X ops.toList rest st K) h hs (fun st' sy' h1 h2=>⟨sy',h1,h2⟩) (fun st' sy' h1 h2=>⟨sy',h1,h2⟩);obtain⟨st1,hsm,_,hr1,hg⟩:=guard_ok (X:=cx X w0 bor) hg hr;rw [←hsm.H]at hQ;rcases hg with⟨hw,sy1,hs1,hy⟩|⟨hw,sy1,hs1,hn⟩
  · simp only [wpList,hw,if_true];left;exact Oper.wp_mono (fun a' w' ⟨st2,sy2,hK2,hs2,hl2⟩=>opsY_ok hA hP rest st2 sy2 a' w' K hK2 hs2 hl2.rel fun st' sy' a'' w'' hK' hs' hlv=>hQ st' sy' a'' w'' hK' hs' (Lv.trans hl2 hlv)) (opO_ok hA hP hy hs1 hr1)
  · simp only [wpList,hw];obtain⟨st2,⟨sy2,hK2,hs2⟩,hr2,hH2⟩:=put_ok hr1 (putY_sim (w0:=w0) (bor:=bor) (s:= .v undef) hn hs1 (by simp only [RelD])) (v:=undef) (.inr rfl);exact opsY_ok hA hP rest st2 sy2 (a.put o.dst undef) w K hK2 hs2 hr2 fun st' sy' a'' w'' hK' hs' hlv=>hQ st' sy' a'' w'' hK' hs' (Lv.trans ⟨hr2,Fx.refl _ _,fun b hb=>by rw [hH2]at hb;exact .inl hb⟩ hlv)
theorem Sim.chA {A A':Nat→Prop} {st:St} {sy:Sy} (h:∀b,okS A st b→okS A' st b) (hs:Sim A st sy):Sim A' st sy:=
 ⟨fun d x hx=>(hs.T d x hx).imp id fun⟨s,h1,h2⟩=>⟨s,h1,RelD.mono (fun b hb=>⟨h b hb,rfl⟩) (fun _ _ h=>h) _ _ h2⟩,
  fun k e he=>by obtain⟨e',h1,h2⟩:=hs.H k e he;exact⟨e',h1,RelE.mono (fun b hb=>⟨h b hb,rfl⟩) (fun _ _ h=>h) h2⟩,hs.nk,hs.fT,hs.fH⟩
theorem ivOK_not {iv:List (Nat×Nat)} {b:Nat} (h:ivOK iv b):¬∃p,p∈iv∧p.1≤b∧b<p.2:=by
 induction iv with
 |nil=>rintro⟨p,hp,_⟩;cases hp
 |cons q iv ih=>
  obtain⟨n,m⟩:=q;simp only [ivOK]at h;rintro⟨p,hp,h1,h2⟩;rcases List.mem_cons.1 hp with rfl|hp
  · rcases h.1 with h|h<;>simp only at h1 h2<;>omega
  · exact ih h.2 ⟨p,hp,h1,h2⟩
def ivBut (E:List Nat):Nat→List (Nat×Nat)
 |0=> []
 |n+1=>match memN n E with|true=>ivBut E n|false=>(n,n+1)::ivBut E n
theorem ivBut_ok {E:List Nat} {b:Nat} (hb:b∈E):∀n,ivOK (ivBut E n) b
 |0=>trivial
 |n+1=>by
  simp only [ivBut];split
  · exact ivBut_ok hb n
  · rename_i h;refine⟨?_,ivBut_ok hb n⟩;have:b≠n:=fun e=>by rw [e]at hb;rw [memN_iff.2 hb]at h;cases h
    omega
theorem ivBut_le {E:List Nat}:∀n p,p∈ivBut E n→p.1≤p.2∧p.2≤n
 |0,p,h=>by cases h
 |n+1,p,h=>by
  simp only [ivBut]at h;split at h
  · have:=ivBut_le n p h;omega
  · rcases List.mem_cons.1 h with rfl|h
    · simp
    · have:=ivBut_le n p h;omega
theorem ivBut_has {E:List Nat} {b:Nat} (hb:b∉E):∀n,b<n→∃p,p∈ivBut E n∧p.1≤b∧b<p.2
 |0,h=>by omega
 |n+1,h=>by
  simp only [ivBut];by_cases e:b=n
  · subst e;split
    · rename_i hm;exact absurd (memN_iff.1 hm) hb
    · exact⟨(b,b+1),List.mem_cons_self,Nat.le_refl _,Nat.lt_succ_self _⟩
  · obtain⟨p,h1,h2⟩:=ivBut_has hb n (by omega);split
    · exact⟨p,h1,h2⟩
    · exact⟨p,List.mem_cons_of_mem _ h1,h2⟩
theorem lookY_killG {ops:List Oper} {l:List Nat} {T:List (Nat×D)} {d:Nat} {x:D} (h:lookY (killG .bad ops l T) d=some x) (hx:x≠ .bad):lookY T d=some x∧∀(T':List (Nat×SV)),look (killG .bad ops l T') d=look T' d:=by
 induction l with
 |nil=>exact⟨h,fun _=>rfl⟩
 |cons i l ih=>
  simp only [killG]at h⊢;split at h
  · split at h
    · rename_i o ho _ _ d' ha hd;simp only [lookY]at h;cases hb:Nat.beq d' d with
      |true=>rw [hb]at h;cases h;exact absurd rfl hx
      |false=>
       rw [hb]at h;obtain⟨h1,h2⟩:=ih h;exact⟨h1,fun T'=>by simp only [look,hb];exact h2 T'⟩
    · exact ih h
  · exact ih h
theorem fresh_killG {j:Nat} {ops:List Oper} {l:List Nat} {T:List (Nat×SV)} (h:freshT j T=true):freshT j (killG .bad ops l T)=true:=by
 induction l with
 |nil=>exact h
 |cons i l ih=>
  simp only [killG];split
  · split
    · simp only [freshT,ment];exact ih
    · exact ih
  · exact ih
theorem opK_ok (hA:AG A X.P w0 bor) (hP:POK X.P X.tt) {o:Oper} {Q:Exit→Act→World→Prop} {j:Nat} {S:List Nat} {KY:Sy→Prop} (hy:y1 X sy o.op (finSY X (j::S) sy o.dst KY)) (hs:Sim A st sy) (hr:Rel (cx X w0 bor) st a w):o.wp X.P a w (LvK A (cx X w0 bor) st.H w KY) Q:=by
 have hev:=y1_sim (X:=X) (w0:=w0) (bor:=bor) (st:=st) (K:=fun out=>∃oy,RelOut st.H (okS A st) st.w (keyS st) oy out∧finSY X (j::S) sy o.dst KY oy) (fun oy out h1 h2=>⟨oy,h1,h2⟩) (zOK hP) hs hy;obtain⟨out,⟨oy,hro,hfin⟩,hout⟩:=ev1_ok (X:=cx X w0 bor) hP.tt hP.ng hr.ev (rowsOK_of hr.cls) hev;cases oy<;>try exact hfin.elim
 cases out<;>try exact hro.elim
 obtain⟨rfl,hargs⟩:=hro;simp only [finSY]at hfin;split at hfin
 · exact callY_keep hA hr hs hargs (by assumption) hfin hout
 · exact hfin.elim
theorem sem_ok (hA:AG A X.P w0 bor) (hP:POK X.P X.tt) {o:Oper} {ops:List Oper} {l S:List Nat} {KY:Sy→Prop} {K:St→Prop}
 (hy:y1 X sy o.op (finSY X S sy o.dst fun st=>match st with|⟨T,H,nk⟩=>KY ⟨killG .bad ops l T,H,nk⟩)) (hs:Sim A st sy)
 (hK:∀st' sy',KY sy'→Sim A st' sy'→K st'):SemOp (cx X w0 bor) o (kpS S) st fun st=>match st with|⟨T,H,nk,w,lo,iv⟩=>K ⟨killG .bad ops l T,H,nk,w,lo,iv⟩:=by
 intro E a w hr hE;have hc:=hr.cls
 have hs':Sim (fun b=>A b∧b∉E) (now st w) sy:=by
  have:=hs.chA (A':=fun b=>A b∧b∉E) fun b hb=>⟨⟨hb.1.1,hb.1.2,fun he=>by
   obtain⟨_,h1,h2,_⟩:=hE b he;rcases hb.1.1 with h|h
   · omega
   · exact ivOK_not h2 h⟩,hb.2⟩
  exact this.now hc
 have hr':Rel (cx X w (bs st.H)) (now st w) a w:=
  ⟨hr.size,hr.T,hr.dfs,⟨Fx.refl _ _,Fx.refl _ _,hc.own,hc.nd,fun b hb=> .inl hb,hc.keys,hc.lt⟩,Nat.le_refl _,by simp [now]⟩
 have hA':AG (fun b=>A b∧b∉E) X.P w (bs st.H):=⟨fun b hb=>by
  refine⟨?_,fun he=> ?_⟩
  · rcases hb with hb|hb
    · exact hA.a b (.inl (Nat.le_trans hc.fx0.size hb))
    · exact hA.a b (hc.lb b hb).symm
  · obtain⟨h0,_,_,h3⟩:=hE b he;rcases hb with hb|hb
    · omega
    · exact h0 hb,hA.giw hc,fun b hb=>hA.lb hc hb⟩
 obtain⟨N,hN⟩:∃N:Act→World→Prop,N=fun a' w'=>∃st2 sy2,(match sy2 with|⟨T,H,nk⟩=>KY ⟨killG .bad ops l T,H,nk⟩)∧Sim (fun b=>A b∧b∉E) st2 sy2∧Lv (cx X w (bs st.H)) (now st w).H w st2 a' w'∧(kpS S=true→(∀i,i<w.heap.size→w'.heap[i]?=w.heap[i]?)∧KB st.H w st2.H):=⟨_,rfl⟩
 have hwp:o.wp X.P a w N (fun _ _ _=>False):=by
  rw [hN];cases S with
  |nil=>exact Oper.wp_mono (fun a' w' ⟨st2,sy2,g1,g2,g3⟩=>⟨st2,sy2,g1,g2,g3,fun h=>by cases h⟩) (opY_ok (Q:=fun _ _ _=>False) hA' hP hy hs' hr')
  |cons j S=>exact Oper.wp_mono (fun a' w' ⟨st2,sy2,g1,g2,g3,g4⟩=>⟨st2,sy2,g1,g2,g3,fun _=>g4⟩) (opK_ok (Q:=fun _ _ _=>False) hA' hP hy hs' hr')
 rcases wp_shift (X:=cx X w (bs st.H)) (Q:=fun _ _ _=>False) (a:=a) (A:=a) (next:=N) rfl hwp
  (fun _ _ h=>by rw [hN]at h;obtain⟨_,_,_,_,hl,_⟩:=h;exact hl.rel.dfs.trans hr.dfs.symm)with h|⟨_,_,h⟩
 case inr=>exact h.elim
 refine Oper.wp_mono (fun a' w' hh=> ?_) h;rw [hN]at hh;obtain⟨v,hv,st2,sy2,hk,hs2,hl,hkp⟩:=hh;have hrl:=hl.rel;have hs3:=hs2.now hrl.cls;obtain⟨T2,H2,nk2,ws2,lo2,iv2⟩:=st2;obtain⟨T,H,nk⟩:=sy2;have hbs2:∀b,b∈bs H2→b∈bs st.H∨w.heap.size≤b:=hl.bs
 have hok:∀b,okS (fun b=>A b∧b∉E) (now ⟨T2,H2,nk2,ws2,lo2,iv2⟩ w') b→okS A ⟨T2,H2,nk2,w',0,ivBut E w'.heap.size⟩ b∧w'.heap[b]?=w'.heap[b]?:=fun b hb=>
  ⟨⟨⟨.inr (ivBut_has hb.1.2.2 _ hb.2.1),hb.1.2.1⟩,hb.2⟩,rfl⟩
 refine⟨v,hv,⟨T2,H2,nk2,w',0,ivBut E w'.heap.size⟩, ?_,⟨⟨by subst hv;exact hrl.size,fun d s hd=>by subst hv;exact hrl.T d s hd,by subst hv;exact hrl.dfs,
  ⟨Fx.refl _ _,Fx.trans hc.fx0 hl.fx (fun _ h=>h) fun b hb=>hc.lb b hb,hrl.cls.own,hrl.cls.nd,fun b hb=> ?_,hrl.cls.keys,hrl.cls.lt⟩,Nat.zero_le _,fun p hp=>ivBut_le _ p hp⟩,hl.fx,hl.bs⟩,fun b hb=>⟨Nat.zero_le _,ivBut_ok hb _⟩,hkp⟩
 · simp only at hk⊢;refine hK _ _ hk ⟨fun d x hx=> ?_,fun k e he=> ?_,hs3.nk,fun j hj=>fresh_killG (hs3.fT j hj),hs3.fH⟩
   · by_cases hbad:x= .bad
     · exact .inl hbad
     · obtain⟨g1,g2⟩:=lookY_killG hx hbad;rcases hs3.T d x g1 with h|⟨s,h1,h2⟩
       · exact .inl h
       · exact .inr ⟨s,by simp only [g2];exact h1,RelD.mono hok (fun _ _ h=>h) _ _ h2⟩
   · obtain⟨e',h1,h2⟩:=hs3.H k e he;exact⟨e',h1,RelE.mono hok (fun _ _ h=>h) h2⟩
 · rcases hbs2 b hb with h|h
   · exact hc.lb b h
   · exact .inr (Nat.le_trans hc.fx0.size h)
theorem planY_sim (hA:AG A X.P w0 bor) (hP:POK X.P X.tt) {ops:List Oper}:∀(p:PT) {st:St} {sy:Sy} {pr:List (Nat×Option Nat)} {K:Sy→Prop},planY X ops p sy pr K→Sim A st sy→xplan (cx X w0 bor) ops p st pr fun st'=>∃sy',K sy'∧Sim A st' sy'
 | .nil,st,sy,pr,K,h,hs=>⟨sy,h,hs⟩
 | .fork p q,st,sy,pr,K,h,hs=>⟨planY_sim hA hP p h.1 hs,planY_sim hA hP q h.2 hs⟩
 | .op i S fl rest,st,sy,pr,K,h,hs=>by
  simp only [planY]at h;simp only [xplan];split at h
  · rename_i o ho;rw [ho];refine guard_sim h hs (fun st' sy' h1 h2=> ?_) (fun st' sy' h1 h2=> ?_)
    · have plain:y1 X sy' o.op (finPY X i S fl pr o sy' fun st pr=>planY X ops rest st pr K)→ev1 (cx X w0 bor) st' o.op (finP (cx X w0 bor) i S fl pr o st' fun st pr=>xplan (cx X w0 bor) ops rest st pr fun st'=>∃sy',K sy'∧Sim A st' sy'):=fun h2=>
       y1_sim (X:=X) (w0:=w0) (bor:=bor) (KY:=finPY X i S fl pr o sy' fun st pr=>planY X ops rest st pr K) (fun oy out hro hk=>finPY_sim hA hk hro h1 fun st2 sy2 pr hs2 hk2=>planY_sim hA hP rest hk2 hs2) (zOK hP) h1 h2
      cases hc:isCall o with
      |false=>simp only [stepY,hc]at h2;simp only [stepX,hc];exact plain h2
      |true=>
       cases fl with
       |false=>simp only [stepY,hc]at h2;simp only [stepX,hc];exact plain h2
       |true=>
        simp only [stepY,hc,killK_eq]at h2;simp only [stepX,hc];exact sem_ok (KY:=fun st=>planY X ops rest st pr K) (K:=fun st'=>xplan (cx X w0 bor) ops rest st' pr fun st'=>∃sy',K sy'∧Sim A st' sy') hA hP h2 h1 fun st2 sy2 hk hs2=>planY_sim hA hP rest hk hs2
    · exact put_mono (putY_sim (w0:=w0) (bor:=bor) (s:= .v undef) h2 h1 (by simp only [RelD])) fun st2 ⟨sy2,hk2,hs2⟩=>planY_sim hA hP rest hk2 hs2
  · exact h.elim
end
mutual
theorem le_rep {ok:Nat→Prop} {w:World}:∀(x y:D) (v:Value),leD x y→Rep ok w x v→Rep ok w y v
 | .v x,y,v,h,hr=>by
  simp only [leD]at h;rcases h with rfl|⟨rfl,z,rfl⟩
  · exact hr
  · simp only [Rep]at hr⊢;rw [hr.1];exact⟨none,0,rfl,Nat.le_refl _,by simp,by simp,rfl, .inl rfl⟩
 | .agg l,y,v,h,hr=>by
  simp only [leD]at h;obtain⟨r,rfl,h⟩:=h;simp only [Rep]at hr⊢;obtain⟨a,h1,h2,h3⟩:=hr;exact⟨a,h1,le_repL l r _ h h2,le_flat l r h h3⟩
 | .tup l,y,v,h,hr=>by
  simp only [leD]at h;obtain⟨r,rfl,h⟩:=h;simp only [Rep]at hr⊢;obtain⟨a,h1,h2⟩:=hr;exact⟨a,h1,le_repL l r _ h h2⟩
 | .lst _ _ _,y,v,h,hr=>by simp only [leD]at h;subst h;exact hr
 | .ptr _ _,y,v,h,hr=>by simp only [leD]at h;subst h;exact hr
 | .mp _,y,v,h,hr=>by simp only [leD]at h;subst h;exact hr
 | .fn _ _ _,y,v,h,hr=>by simp only [leD]at h;subst h;exact hr
 | .own _ _,_,_,_,hr=>by simp [Rep]at hr
 | .ownx _ _,_,_,_,hr=>by simp [Rep]at hr
 | .row _ _,_,_,_,hr=>by simp [Rep]at hr
 | .elr _ _ _ _,_,_,_,hr=>by simp [Rep]at hr
 | .osl _ _ _ _ _,_,_,_,hr=>by simp [Rep]at hr
 | .und,_,_,_,hr=>by simp [Rep]at hr
 | .bad,_,_,_,hr=>by simp [Rep]at hr
theorem le_repL {ok:Nat→Prop} {w:World}:∀(l r:List D) (v:List Value),leDL l r→RepL ok w l v→RepL ok w r v
 | [], [],v,_,hr=>hr
 |x::l,y::r,v::vs,h,hr=>by
  simp only [leDL]at h;simp only [RepL]at hr⊢;exact⟨le_rep x y v h.1 hr.1,le_repL l r vs h.2 hr.2⟩
 |_::_,_::_, [],_,hr=>by simp [RepL]at hr
 | [],_::_,_,h,_=>by simp [leDL]at h
 |_::_, [],_,h,_=>by simp [leDL]at h
end
mutual
theorem leD.refl:∀(x:D),leD x x
 | .v x=>by simp only [leD];exact .inl trivial
 | .agg l=>by simp only [leD];exact⟨l,rfl,leDL.refl l⟩
 | .tup l=>by simp only [leD];exact⟨l,rfl,leDL.refl l⟩
 | .lst _ _ _=>by simp only [leD]
 | .ptr _ _=>by simp only [leD]
 | .mp _=>by simp only [leD]
 | .fn _ _ _=>by simp only [leD]
 | .own _ _=>by simp only [leD]
 | .ownx _ _=>by simp only [leD]
 | .row _ _=>by simp only [leD]
 | .elr _ _ _ _=>by simp only [leD]
 | .osl _ _ _ _ _=>by simp only [leD]
 | .und=>by simp only [leD]
 | .bad=>by simp only [leD]
theorem leDL.refl:∀(l:List D),leDL l l
 | []=>trivial
 |x::l=>⟨leD.refl x,leDL.refl l⟩
end
theorem Does.le {P:Program} {f:FuncId} {args args':List D} {Q:D→Prop} (h:Does P f args' Q) (hl:leDL args args'):Does P f args Q:=fun ok w vs hr hok hg=>h ok w vs (le_repL _ _ _ hl hr) hok hg
theorem Does.mono {P:Program} {f:FuncId} {args:List D} {Q Q':D→Prop} (h:Does P f args Q) (hq:∀r,Q r→Q' r):Does P f args Q':=fun ok w vs hr hok hg=>
 (h ok w vs hr hok hg).mono fun _ _ ⟨v,r,h1,h2,h3⟩=>⟨v,r,h1,hq r h2,h3⟩
section
variable {A : Nat → Prop} {X : Cy} {w0 : World} {bor : List Nat} {st : St} {sy : Sy} {a : Act} {w : World}
theorem codeY_ok (hA:AG A X.P w0 bor) (hP:POK X.P X.tt) (c:Code):∀(st:St) (sy:Sy) (a:Act) (w:World) (K:Exit→Sy→Prop) (Q:Exit→Act→World→Prop),codeY X c sy K→Sim A st sy→Rel (cx X w0 bor) st a w→
 (∀e st' sy' a' w',plain e→K e sy'→Sim A st' sy'→Lv (cx X w0 bor) st.H w st' a' w'→Q e a' w')→c.wp X.P Q a w:=by
 induction c with
 |skip=>exact fun st sy a w K Q h hs hr hQ=>wp_skip (hQ .normal st sy a w trivial h hs (Lv.refl hr))
 |label l=>exact fun st sy a w K Q h hs hr hQ=>wp_label (hQ .normal st sy a w trivial h hs (Lv.refl hr))
 |exit id=>exact fun st sy a w K Q h hs hr hQ=>wp_exit (hQ (.exit id) st sy a w trivial h hs (Lv.refl hr))
 |ret=>exact fun st sy a w K Q h hs hr hQ=>wp_ret (hQ .ret st sy a w trivial h hs (Lv.refl hr))
 |region id ops draw=>
  intro st sy a w K Q h hs hr hQ;cases draw with
  |false=>exact wp_region_list (opsY_ok hA hP ops.toList _ _ a w _ h hs hr fun st' sy' a' w' hk hs' hl=>hQ .normal st' sy' a' w' trivial hk hs' hl)
  |true=>
   simp only [codeY]at h;split at h
   · obtain⟨T,H,nk⟩:=sy;obtain⟨T',H',nk',ws,lo,iv⟩:=st;have hx:=planY_sim (w0:=w0) (bor:=bor) hA hP _ h.2 (kill_sim (ops:=ops.toList) hs);exact wp_region_any hP.mix (region_draw_any (X:=cx X w0 bor) hP hr h.1 hx fun st' a' w' ⟨sy',hk,hs'⟩ hl=>hQ .normal st' sy' a' w' trivial hk hs' hl)
   · exact h.elim
 |seq x y ihx ihy=>
  intro st sy a w K Q h hs hr hQ;refine wp_seq (ihx st sy a w _ _ h hs hr fun e st1 sy1 a1 w1 hp hk hs1 hl=> ?_);cases e with
  |normal=>exact ihy st1 sy1 a1 w1 K Q hk hs1 hl.rel fun e st2 sy2 a2 w2 hp hk2 hs2 hl2=>hQ e st2 sy2 a2 w2 hp hk2 hs2 (Lv.trans hl hl2)
  |exit id=>exact hQ _ _ _ _ _ hp hk hs1 hl
  |ret=>exact hQ _ _ _ _ _ hp hk hs1 hl
  |goto l=>exact hp.elim
  |panic c=>exact hp.elim
  |outgrown=>exact hp.elim
 |cond c x y ihx ihy=>
  intro st sy a w K Q h hs hr hQ;simp only [codeY]at h;split at h
  · rename_i b hc;obtain⟨s,h1,h2,_⟩:=evY_sim hs hc;have:=h2.sc;subst this;have hb:a.eval c= .bool b:=by simpa [den]using (hr.ev c _ h1).2
    cases b with
    |true=>exact wp_cond_true hb (ihx st sy a w K Q h hs hr hQ)
    |false=>exact wp_cond_false hb (ihy st sy a w K Q h hs hr hQ)
  · exact h.elim
 |block id c ih=>
  intro st sy a w K Q h hs hr hQ;refine wp_block (ih st sy a w _ _ h hs hr fun e st1 sy1 a1 w1 hp hk hs1 hl=> ?_);cases e with
  |normal=>exact hQ _ _ _ _ _ hp hk hs1 hl
  |exit j=>
   simp only [Exit.inBlock];simp only at hk;split at hk
   · rename_i hb;rw [if_pos (beqT hb)];exact hQ .normal _ _ _ _ trivial hk hs1 hl
   · rename_i hb;rw [if_neg (beqF hb)];exact hQ _ _ _ _ _ hp hk hs1 hl
  |ret=>exact hQ _ _ _ _ _ hp hk hs1 hl
  |goto l=>exact hp.elim
  |panic c=>exact hp.elim
  |outgrown=>exact hp.elim
 |scope c ih=>
  intro st sy a w K Q h hs hr hQ;refine wp_scope_straight (ih st sy a w K _ h hs hr fun e st1 sy1 a1 w1 hp hk hs1 hl=> ?_);cases e with
  |normal=>exact hQ _ _ _ _ _ hp hk hs1 hl
  |exit j=>exact hQ _ _ _ _ _ hp hk hs1 hl
  |ret=>exact hQ _ _ _ _ _ hp hk hs1 hl
  |goto l=>exact hp.elim
  |panic c=>exact hp.elim
  |outgrown=>exact hp.elim
 |loop c ih=>
  intro st sy a w K Q h hs hr hQ;have h:LoopY (codeY X c) sy K:=h;obtain⟨α,f,inv,μ,⟨x0,hsub,hinv⟩,hround⟩:=h.ex;obtain⟨st0,hs0,hr0,hb0⟩:=hsub.rel hA hs hr;refine wp_loop_ghost (fun n a1 w1=>∃x,μ x=n∧inv x∧∃st1,Sim A st1 (f x)∧Lv (cx X w0 bor) st.H w st1 a1 w1) (μ x0) ⟨x0,rfl,hinv,st0,hs0,hr0,Fx.refl _ _,fun b hb=> .inl (hb0 b hb)⟩ ?_;rintro n a1 w1 ⟨x,rfl,hinv1,st1,hs1,hlv⟩;refine ih st1 (f x) a1 w1 _ _ (hround x hinv1) hs1 hlv.rel fun e st2 sy2 a2 w2 hp hk hs2 hl=> ?_
  have hl2:=Lv.trans hlv hl;cases e with
  |normal=>
   obtain⟨y,hsb,hi,hlt⟩:=hk;obtain⟨st3,hs3,hr3,hb3⟩:=hsb.rel hA hs2 hl2.rel;exact⟨μ y,hlt,y,rfl,hi,st3,hs3,hr3,hl2.fx,fun b hb=>hl2.bs b (hb3 b hb)⟩
  |exit j=>exact hQ _ _ _ _ _ hp hk hs2 hl2
  |ret=>exact hQ _ _ _ _ _ hp hk hs2 hl2
  |goto l=>exact hp.elim
  |panic c=>exact hp.elim
  |outgrown=>exact hp.elim
 |_=>intro st sy a w K Q h hs hr hQ;exact h.elim
theorem retOf_ok (hA:AG A X.P w0 bor) {Qr:D→Prop} {r:D} {s:SV} (h:retOf sy r Qr) (hs:Sim A st sy) (hr:Rel (cx X w0 bor) st a w) (hrel:RelD (okS A st) st.w (keyS st) r s):
 ∃r',Qr r'∧Rep (fun b=>A b∧b<w.heap.size) w r' (den st.H s):=by
 have hc:=hr.now.cls;have hs0:=hs.now hr.cls;have h0:RelD (okS A (now st w)) w (keyS (now st w)) r s:=RelD.mono (ok_now hr.cls) (fun _ _ h=>h) _ _ hrel;unfold retOf at h;split at h
 · rename_i hcl;obtain⟨r',hle,hq⟩:=h.ex;exact⟨r',hq,le_rep _ _ _ hle (Rep.mono (fun b hb=>⟨⟨hb.1.2,hb.2.1⟩,rfl⟩) _ _ (clean_rep (H:=st.H) _ _ h0 hcl))⟩
 · split at h
   · rename_i sy' r1 hfz;split at h
     · rename_i hcl;obtain⟨r',hle,hq⟩:=h.ex;obtain⟨st1,l1,c1,a1,s1,b1,o1,g1,g2⟩:=fzAll_ok (Xx:=cx X w0 bor) hA.a _ hc ⟨rfl,rfl,rfl⟩ hs0 (l:= [r]) (r:= [s]) (by exact⟨h0,trivial⟩) hfz;obtain⟨s1',rfl,g3⟩:=g1.one1;simp only [denL,List.cons.injEq,and_true]at g2;have g2:den st1.H s1'=den st.H s:=g2;refine⟨r',hq,le_rep _ _ _ hle ?_⟩;rw [←g2];exact Rep.mono (fun b hb=>⟨⟨hb.1.2,by have:=hb.2.1;rw [a1.1]at this;exact this⟩,rfl⟩) _ _ (clean_rep (H:=st1.H) _ _ g3 hcl)
     · exact h.elim
   · exact h.elim
end
theorem does_y {X:Cy} (hP:POK X.P X.tt) {f:FuncId} {fn:Func} {c:Code} (args:List D) {Qr:D→Prop} (hf:X.P.funcs[f]?=some fn) (hb:fn.body=some c) (hn:X.nt=fn.ntmps) (hl:args.length≤fn.ntmps)
 (h:codeY X c ⟨zipY 0 args, [],0⟩ (retY X fn.results.toList Qr)) (h0:X.dfs= []:=by rfl) (hg:fn.ntmps≤gbase:=by exact Nat.le_of_ble_eq_true rfl):Does X.P f args Qr:=by
 intro ok w vl hrep hok hgi;have hA:=AG.nil ok hgi;refine calls_of_wp hf hb (codeY_ok (A:=fun b=>b<w.heap.size→ok b) (w0:=w) (bor:= []) hA hP c ⟨zipT 0 (vs vl), [],0,w,w.heap.size, []⟩ ⟨zipY 0 args, [],0⟩ _ _ _ _ h ?_ ?_ fun e st' sy' a' w' hp hk hs' hlv=> ?_)
 · refine⟨fun d x hx=> ?_,fun k e he=>by simp [findY]at he,rfl,fun j _=>freshT_zip,fun _ _=>rfl⟩;obtain⟨_,h2⟩:=zipY_look hx;obtain⟨y,h3,h4⟩:=hrep.get h2;right;refine⟨.v y,look_zip (Nat.zero_le _) ?_,Rep.rel _ _ (Rep.mono (fun b hb=>⟨⟨⟨.inl (hok b hb),fun _=>hb⟩,hok b hb,fun c hc=>by simp [bs]at hc⟩,rfl⟩) _ _ h4)⟩
   have:∀(l:List Value) (j:Nat),(vs l)[j]?=(l[j]?).map .v:=by
    intro l
    induction l with
    |nil=>simp [vs]
    |cons x l ih=>intro j;cases j<;>simp [vs,ih]
   rw [this,h3];rfl
 · refine⟨by simp [cx,hn,←hrep.length];omega,fun d s hs=> ?_,h0.symm,Cls.nil (cx X w []) 0,Nat.le_refl _,by simp⟩;obtain⟨_,h2⟩:=zipT_look (n:=0) hs
   have:∀(l:List Value) (j:Nat),(vs l)[j]?=(l[j]?).map .v:=by
    intro l
    induction l with
    |nil=>simp [vs]
    |cons x l ih=>intro j;cases j<;>simp [vs,ih]
   simp only [Nat.sub_zero]at h2;rw [this]at h2;cases hv:vl[d]? with
   |none=>rw [hv]at h2;cases h2
   |some y=>
    rw [hv]at h2;cases h2;right;have hlt:=(List.getElem?_eq_some_iff.1 hv).1;rw [slotv,if_pos (by have:=hrep.length;omega),Array.getElem?_append_left (by simpa using hlt)]
    simpa [den]using hv
 · have main:∀ {r:D} {s:SV},retOf sy' r Qr→RelD (okS (fun b=>b<w.heap.size→ok b) st') st'.w (keyS st') r s→(results fn a'.tmps).run X.P w'= .ok (den st'.H s) w'→a'.defers= []∧∃v,(results fn a'.tmps).run X.P w'= .ok v w'∧∃v1 r,Ending.returned v= .returned v1∧Qr r∧Rep (fun b=>ok b∨(w.heap.size≤b∧b<w'.heap.size)) w' r v1∧Below w.heap.size w w':=by
    intro r s hret hrel hrun;obtain⟨r',hq,hrp⟩:=retOf_ok hA hret hs' hlv.rel hrel;refine⟨hlv.rel.dfs.trans h0,_,hrun,_,r',rfl,hq,Rep.mono (fun b hb=>⟨?_,rfl⟩) _ _ hrp,hlv.fx.below⟩;by_cases hlt:b<w.heap.size
    · exact .inl (hb.1 hlt)
    · exact .inr ⟨by omega,hb.2⟩
   have fin:(match resY X sy' fn.results.toList with
    |some [s]=>retOf sy' s Qr
    |some l=>retOf sy' (.tup l) Qr
    |none=>False)→a'.defers= []∧∃v,(results fn a'.tmps).run X.P w'= .ok v w'∧∃v1 r,Ending.returned v= .returned v1∧Qr r∧Rep (fun b=>ok b∨(w.heap.size≤b∧b<w'.heap.size)) w' r v1∧Below w.heap.size w w':=by
    intro hk;cases hres:resY X sy' fn.results.toList with
    |none=>rw [hres]at hk;exact hk.elim
    |some l=>
     rw [hres]at hk;obtain⟨l',h1,h2⟩:=resY_sim (w0:=w) (bor:= []) hs' hres;have hrun:=results_ok (X:=cx X w []) hP.tt hlv.rel h1
     match l,l',h2,hk,hrun with
     | [s], [s'],h2,hk,hrun=>exact main hk h2.1 hrun
     | [], [],h2,hk,hrun=>exact main (s:= .tup []) hk (by simp only [RelD];exact .inl ⟨[],rfl,trivial⟩) (by simpa [den,retV,cx]using hrun)
     |x::y::l,x'::y'::l',h2,hk,hrun=>exact main (s:= .tup (x'::y'::l')) hk (by simp only [RelD];exact .inl ⟨_,rfl,h2⟩) (by simpa [den,retV,cx]using hrun)
     | [],_::_,h2,_,_=>simp [RelDL]at h2
     | [_], [],h2,_,_=>simp [RelDL]at h2
     | [_],_::_::_,h2,_,_=>simp [RelDL]at h2
     |_::_::_, [],h2,_,_=>simp [RelDL]at h2
     |_::_::_, [_],h2,_,_=>simp [RelDL]at h2
   cases e with
   |normal=>exact fin hk
   |ret=>exact fin hk
   |exit id=>exact hk.elim
   |goto l=>exact hp.elim
   |panic c=>exact hp.elim
   |outgrown=>exact hp.elim
abbrev DI (z:Int):D:= .v (.int .i64 z)
abbrev DB (b:Bool):D:= .v (.bool b)
abbrev lD {α:Type} (z:Nat) (x:List α) (c:α→List D):D:= .lst z x.length (x.flatMap c)
abbrev rE {α:Type} (z:Nat) (x:List α) (c:α→List D) (ty:TypeId):E:= .row z x.length (x.flatMap c) ty
theorem VIf.b {α:Type} {b:Bool} {p q:Prop} {x y r:Option α} (h1:b=true→x=r→p) (h2:b=false→y=r→q):(if b=true then x else y)=r→VIf b p q:=by
 intro h;cases b with
 |true=>exact h1 rfl h
 |false=>exact h2 rfl h
theorem tR {T:List (Nat×D)} {d:Nat} {x:D} (h:lookY T d=some x):∃y,lookY T d=some y∧leD y x:=⟨x,h,leD.refl x⟩
theorem leBL.refl:∀(l:List D),leBL l l
 | []=>trivial
 |x::l=>by
  have h:=leBL.refl l;cases x<;>simp only [leBL]<;>first|exact h|exact⟨leD.refl _,h⟩
theorem hR {H:Hy} {k:Nat} {cs:List D} {ty:TypeId} (h:findY H k=some (.blk cs ty)):∃cs0,findY H k=some (.blk cs0 ty)∧leBL cs0 cs:=⟨cs,h,leBL.refl cs⟩
theorem hW {H:Hy} {k z m m0:Nat} {l:List D} {ty:TypeId} (h:findY H k=some (.row z m0 l ty)) (hm:m0=m:=by first|rfl|simp):∃m0 l0,findY H k=some (.row z m0 l0 ty)∧m0=m∧l0=l:=⟨m0,l,h,hm,rfl⟩
theorem CallY.det {P:Program} {f:FuncId} {args:List D} {st:Sy} {K:Sy→D→Prop} {r:D} (h:Does P f args fun x=>x=r) (hk:K st r):CallY P f args st K:=⟨⟨_,h,fun x hx=>hx▸hk⟩⟩
theorem CallY.any {P:Program} {f:FuncId} {args:List D} {st:Sy} {K:Sy→D→Prop} {Q:D→Prop} (h:Does P f args Q) (hk:∀r,Q r→K st r):CallY P f args st K:=⟨⟨_,h,hk⟩⟩
theorem CallOwn.det {P:Program} {seq:Bool} {f:FuncId} {fa:List D} {st st':Sy} {K:Sy→D→Prop} {r:D} (h:Does P f fa fun x=>x=r) (hk:match scal r,seq with
 |true,_=>K st r
 |false,true=>K st' r
 |false,false=>False):CallOwn P seq f fa st st' K:=⟨⟨_,h,fun x hx=>hx▸hk⟩⟩
theorem RetY.pure {r:D}:RetY r fun x=>x=r:=⟨⟨r,leD.refl r,rfl⟩⟩
theorem RetY.eq {r s:D} (h:r=s):RetY r fun x=>x=s:=⟨⟨r,leD.refl r,h⟩⟩
theorem RetY.le {r s:D} (h:leD r s):RetY r fun x=>x=s:=⟨⟨s,h,rfl⟩⟩
theorem LoopY.of {body:Sy→(Exit→Sy→Prop)→Prop} {st:Sy} {K:Exit→Sy→Prop} {α:Type} (f:α→Sy) (inv:α→Prop) (μ:α→Nat) (x0:α) (h0:SubY st (f x0)) (hi:inv x0)
 (h:∀x,inv x→body (f x) fun e st2=>match e with
  | .normal=>∃y,SubY st2 (f y)∧inv y∧μ y<μ x
  |e=>K e st2):LoopY body st K:=⟨⟨α,f,inv,μ,⟨x0,h0,hi⟩,h⟩⟩
theorem SubY.of {st st':Sy} (n:Nat) (h1:okShape n st'=true) (h2:subTY n st.T st'.T) (h3:subHY n st.H st'.H):SubY st st':=⟨[],st,rfl,⟨.inl ⟨n,h1,h2,h3⟩⟩⟩
theorem SubY.fz {st st1 st':Sy} (ks:List Nat) (hf:fzAll ks st []=some (st1, [])) (n:Nat) (h1:okShape n st'=true) (h2:subTY n st1.T st'.T) (h3:subHY n st1.H st'.H):SubY st st':=⟨ks,st1,hf,⟨.inl ⟨n,h1,h2,h3⟩⟩⟩
theorem BodyT.of {X:Cy} (hP:POK X.P X.tt) {c:Code} {st0:Sy} {K:Exit→Sy→Prop} (h:∀sv,codeY { X with sv:=sv} c st0 K):BodyT X c st0 K:=
 fun _ _ _ sv st a w Q hA hs hr hQ=>codeY_ok (X:= { X with sv:=sv}) hA hP c st st0 a w K Q (h sv) hs hr hQ
theorem CallIn.ofP {X:Cy} {f:FuncId} {args:List D} {dst:Option Nat} {st:Sy} {K:Sy→Prop} (hP:POK X.P X.tt) (st0 st1:Sy) (pl:List (Nat×PT)) (ln un inl:List Nat) {fn:Func} {c:Code} (hf:X.P.funcs[f]?=some fn) (hb:fn.body=some c)
 (hg:Nat.ble fn.ntmps 1000000=true) (hl:Nat.ble args.length fn.ntmps=true) (hs:SubY ⟨zipY 0 args++shiftT X.nt st.T,st.H,st.nk⟩ st0)
 (hbody:∀sv,codeY ⟨X.P,X.tt,fn.ntmps,pl,ln,un, [],inl,sv⟩ c st0 (retIn X ⟨X.P,X.tt,fn.ntmps,pl,ln,un, [],inl, []⟩ fn.results.toList dst fun sy=>SubY sy st1)) (hk:K st1):CallIn X f args dst st K:=
 ⟨fn.ntmps,pl,ln,un,inl,fn,c,st0,st1,⟨hf,hb,rfl,hg,hl⟩,hs, .of (X:=⟨X.P,X.tt,fn.ntmps,pl,ln,un, [],inl, []⟩) hP hbody,hk⟩
def gd {α:Type} (p:Prop) [Decidable p] (k:Option α):Option α:=if p then k else none
theorem gd_some {α:Type} {p:Prop} [Decidable p] {k:Option α} {r:α} (h:gd p k=some r):p∧k=some r:=by
 unfold gd at h;split at h
 · rename_i hp;exact⟨hp,h⟩
 · cases h
theorem bd_some {α β:Type} {o:Option α} {f:α→Option β} {r:β} (h:Option.bind o f=some r):∃x,o=some x∧f x=some r:=by
 cases o with
 |none=>cases h
 |some x=>exact⟨x,rfl,h⟩
def loopO {S E:Type} (body:S→Option (Sum S E)):Nat→S→Option E
 |0,_=>none
 |n+1,s=>match body s with
  |none=>none
  |some (.inl s')=>loopO body n s'
  |some (.inr e)=>some e
def FUEL:Nat:=18446744073709551616
def loopF {S E:Type} (body:S→Option (Sum S E)) (s:S):Option E:=loopO body FUEL s
theorem loop_step {S E:Type} {body:S→Option (Sum S E)} {n:Nat} {s:S} {e:E} (h:loopO body n s=some e):∃m b,n=m+1∧body s=some b∧(match b with| .inl s'=>loopO body m s'=some e| .inr e'=>e'=e):=by
 cases n with
 |zero=>cases h
 |succ n=>
  simp only [loopO]at h;cases hb:body s with
  |none=>rw [hb]at h;cases h
  |some b=>
   rw [hb]at h;refine⟨n,b,rfl,rfl, ?_⟩;cases b with
   |inl s'=>exact h
   |inr e'=>cases h;rfl
theorem LoopY.ofL {S E:Type} {body:Sy→(Exit→Sy→Prop)→Prop} {st:Sy} {K:Exit→Sy→Prop} (L:S→Option (Sum S E)) (f:S→Sy) (s0:S) {ev:E} (h0:SubY st (f s0)) (he:loopF L s0=some ev)
 (h:∀n s b,L s=some b→(match b with| .inl s'=>loopO L n s'=some ev| .inr e'=>e'=ev)→body (f s) fun x st2=>match x with
  | .normal=>∃y:Nat×S,SubY st2 (f y.2)∧loopO L y.1 y.2=some ev∧y.1<n+1
  |x=>K x st2):LoopY body st K:=by
 refine LoopY.of (fun x:Nat×S=>f x.2) (fun x=>loopO L x.1 x.2=some ev) (fun x=>x.1) (FUEL,s0) h0 he ?_;rintro⟨n,s⟩ hi;obtain⟨m,b,rfl,hb,hc⟩:=loop_step hi;exact h m s b hb hc
def idx {α:Type} (l:List α) (i:Int):Option α:=match decide (0≤i)with|true=>l[i.toNat]?|false=>none
theorem idx_some {α:Type} {l:List α} {i:Int} {x:α} (h:idx l i=some x):0≤i∧l[i.toNat]?=some x:=by
 unfold idx at h;split at h
 · rename_i hd;exact⟨of_decide_eq_true hd,h⟩
 · cases h
theorem flat_len {α:Type} {c:α→List D} {z:Nat} (hc:∀x,(c x).length=z) (l:List α):(l.flatMap c).length=l.length*z:=by
 induction l with
 |nil=>simp
 |cons x l ih=>simp [ih,hc,Nat.add_mul,Nat.add_comm]
theorem flat_el {α:Type} {c:α→List D} {z:Nat} (hc:∀x,(c x).length=z):∀(l:List α) (i:Nat) {x:α},l[i]?=some x→el (l.flatMap c) z i=c x
 | [],i,x,h=>by simp at h
 |y::l,0,x,h=>by
  simp at h;subst h;simp only [el,Nat.zero_mul,List.drop_zero,List.flatMap_cons];rw [List.take_append_of_le_length (by rw [hc];exact Nat.le_refl _),List.take_of_length_le (by rw [hc];exact Nat.le_refl _)]
 |y::l,i+1,x,h=>by
  simp at h;have ih:=flat_el hc l i h;simp only [el,List.flatMap_cons]at ih⊢;have:(i+1)*z=(c y).length+i*z:=by rw [hc,Nat.add_mul];omega
  rw [this,List.drop_append,List.drop_eq_nil_of_le (by omega)];simpa using ih
theorem el_idx {α:Type} {c:α→List D} {z:Nat} {l:List α} {i:Int} {x:α} (hc:∀x,(c x).length=z) (h:idx l i=some x):el (l.flatMap c) z i.toNat=c x∧0≤i∧i<l.length:=by
 obtain⟨h1,h2⟩:=idx_some h;have:=(List.getElem?_eq_some_iff.1 h2).1;exact⟨flat_el hc l _ h2,h1,by omega⟩
theorem flat_app {α:Type} {c:α→List D} {l r:List α}:l.flatMap c++r.flatMap c=(l++r).flatMap c∧l.length+r.length=(l++r).length:=by simp
theorem flat_drop {α:Type} {c:α→List D} {z:Nat} (hc:∀x,(c x).length=z):∀(n:Nat) (l:List α),(l.flatMap c).drop (n*z)=(l.drop n).flatMap c
 |0,l=>by simp
 |n+1, []=>by simp
 |n+1,x::l=>by
  have e1:(n+1)*z=(c x).length+n*z:=by rw [hc,Nat.add_mul];omega
  rw [List.flatMap_cons,e1,List.drop_append,List.drop_eq_nil_of_le (by omega)];simpa using flat_drop hc n l
theorem flat_take {α:Type} {c:α→List D} {z:Nat} (hc:∀x,(c x).length=z):∀(n:Nat) (l:List α),(l.flatMap c).take (n*z)=(l.take n).flatMap c
 |0,l=>by simp
 |n+1, []=>by simp
 |n+1,x::l=>by
  have e1:(n+1)*z=(c x).length+n*z:=by rw [hc,Nat.add_mul];omega
  rw [List.flatMap_cons,e1,List.take_append,List.take_of_length_le (by omega)];simpa using flat_take hc n l
def sub {α:Type} (l:List α) (a b:Nat):List α:=(l.drop a).take (b-a)
theorem flat_sub {α:Type} {c:α→List D} {z:Nat} (hc:∀x,(c x).length=z) (a b:Nat) (l:List α):((l.flatMap c).drop (a*z)).take ((b-a)*z)=(sub l a b).flatMap c:=by
 rw [flat_drop hc,flat_take hc];rfl
theorem sub_len {α:Type} {l:List α} {a b:Nat} (h:b≤l.length):(sub l a b).length=b-a:=by simp [sub];omega
theorem rsl_part {α:Type} {c:α→List D} {z:Nat} (hc:∀x,(c x).length=z) {xs ys:List α} {o a b:Nat} (ho:(b-a=0∨o=a*z)∧(a=0→o=0)) (h0:0<xs.length) (hab:a≤b) (hb:b≤xs.length) (hy:some (sub xs a b)=some ys):
 ((xs.flatMap c).drop o).take ((b-a)*z)=ys.flatMap c∧b-a=ys.length∧(b-a=0∨o+(b-a)*z≤xs.length*z)∧0<xs.length∧b-a≤xs.length:=by
 have hy:=Option.some.inj hy;subst hy;refine⟨?_,(sub_len hb).symm, ?_,h0,by omega⟩
 · rcases ho.1 with h|h
   · rw [h,Nat.zero_mul];unfold sub;rw [h];rfl
   · rw [h,flat_sub hc]
 · rcases ho.1 with h|h
   · exact .inl h
   · right;rw [h,←Nat.add_mul];exact Nat.mul_le_mul_right _ (by omega)
theorem rsl_app {α:Type} {c:α→List D} {z:Nat} {L l1:List D} {y0 y1:List α} {n0 n1:Nat} {p q:Prop} (h0:(L.drop 0).take (n0*z)=y0.flatMap c∧n0=y0.length∧p) (h1:l1=y1.flatMap c∧n1=y1.length∧q):
 L.take (n0*z)++l1=(y0++y1).flatMap c∧n0+n1=(y0++y1).length:=by
 obtain⟨a,b,_⟩:=h0;obtain⟨d,e,_⟩:=h1;rw [List.drop_zero]at a;subst b e;exact⟨by rw [a,d];simp,by simp⟩
theorem rep_row {α:Type} {c:α→List D} {z:Nat} (_:∀x,(c x).length=z) (n:Nat) (x:α) {l:List D} (h:l=c x):repD n l=(List.replicate n x).flatMap c∧n=(List.replicate n x).length:=by
 subst h;refine⟨?_,by simp⟩
 induction n with
 |zero=>rfl
 |succ n ih=>simp only [repD,List.replicate_succ,List.flatMap_cons,ih]
theorem leD.eq {x y:D} (h:x=y):leD x y:=h▸leD.refl x
theorem leDL.eq {x y:List D} (h:x=y):leDL x y:=h▸leDL.refl x
theorem leD.nil {z:Nat}:leD (.v (.slice none 0 0)) (.lst z 0 []):=by simp only [leD];exact .inr ⟨trivial,z,rfl⟩
abbrev cI (x:Int):List D:= [DI x]
abbrev cB (x:Bool):List D:= [DB x]
theorem vs_get (l:List Value) (j:Nat):(vs l)[j]?=(l[j]?).map .v:=by
 induction l generalizing j with
 |nil=>simp [vs]
 |cons x l ih=>cases j<;>simp [vs,ih]
structure RowIs (e:E) (z' z n:Nat) (l:List D) (ty:TypeId):Prop where
 ex:e= .row z n l ty∧z'=z
def retRow (st:Sy) (z n:Nat) (l:List D) (ty:TypeId) (r:D):Prop:=
 match r with
 | .row k z'=>match findY st.H k with
  |some e=>RowIs e z' z n l ty
  |none=>False
 | .v (.slice none 0 0)=>n=0∧l= []
 |_=>False
def retUY (X:Cy) (rs:List ResultVar) (z n:Nat) (l:List D) (ty:TypeId) (e:Exit) (st:Sy):Prop:=
 match e with
 | .normal=>match resY X st rs with
  |some [s]=>retRow st z n l ty s
  |_=>False
 | .ret=>match resY X st rs with
  |some [s]=>retRow st z n l ty s
  |_=>False
 |_=>False
section
variable {A : Nat → Prop} {X : Cy} {w0 : World} {bor : List Nat} {st : St} {sy : Sy} {a : Act} {w : World}
theorem ret_row {z n:Nat} {l:List D} {ty:TypeId} {r:D} {s:SV} (h:retRow sy z n l ty r) (hs:Sim A st sy) (hr:Rel (cx X w0 bor) st a w) (hrel:RelD (okS A st) st.w (keyS st) r s):
 RowAt (fun b=>(A b∧b<w.heap.size)∧b∉ownB (den st.H s)) w z n l ty (den st.H s)∧∀b,b∈ownB (den st.H s)→b∈bor∨w0.heap.size≤b:=by
 unfold retRow at h;split at h
 · rename_i k z';split at h
   · rename_i e he;obtain⟨rfl,rfl⟩:=h.ex;simp only [RelD]at hrel;obtain⟨rfl,_⟩:=hrel;obtain⟨e',hf',hre⟩:=hs.H _ _ he;cases e' with
     |blk=>exact hre.elim
     |mp=>exact hre.elim
     |row v n1 xs z1 ty1=>
      obtain⟨rfl,rfl,rfl,hrep,hfl,hlen⟩:=hre;have hdv:den st.H (.row k)=v:=by simp [den,rowVal,hf']
      rw [hdv];have hb:∀b,b∈ownB v→b∈bs st.H:=fun b hb=>bs_mem.2 ⟨k,_,findE_mem hf',hb⟩
      refine⟨⟨xs,hr.cls.row hf',RepL.mono (fun b hbk=> ?_) _ _ hrep,hfl,hlen⟩,fun b hbv=>hr.cls.lb b (hb b hbv)⟩;have h2:=(ok_now hr.cls) b hbk;exact⟨⟨⟨hbk.1.2,h2.1.2.1⟩,fun hc=>hbk.2.2 b (hb b hc) rfl⟩,h2.2⟩
   · exact h.elim
 · obtain⟨rfl,rfl⟩:=h;simp only [RelD]at hrel;obtain⟨rfl,_⟩:=hrel;exact⟨⟨[],World.ownsRow_nil _ _ _ _,by simp [RepL],rfl,by simp⟩,by simp [den,ownB]⟩
 · exact h.elim
theorem ret_own (hP:POK X.P X.tt) {fn:Func} {z n:Nat} {l:List D} {ty:TypeId} {e:Exit} {R:Ending→World→Prop} (hp:plain e) (h:retUY X fn.results.toList z n l ty e sy) (hs:Sim A st sy) (hr:Rel (cx X w0 bor) st a w)
 (hR:∀v,RowAt (fun b=>(A b∧b<w.heap.size)∧b∉ownB v) w z n l ty v→(∀b,b∈ownB v→b∈bor∨w0.heap.size≤b)→R (.returned v) w) (h0:X.dfs= []):bodyPost X.P fn R e a w:=by
 have fin:(match resY X sy fn.results.toList with
  |some [s]=>retRow sy z n l ty s
  |_=>False)→a.defers= []∧∃v,(results fn a.tmps).run X.P w= .ok v w∧R (.returned v) w:=by
  intro hk;cases hres:resY X sy fn.results.toList with
  |none=>rw [hres]at hk;exact hk.elim
  |some l0=>
   rw [hres]at hk;obtain⟨l',h1,h2⟩:=resY_sim (w0:=w0) (bor:=bor) hs hres;have hrun:=results_ok (X:=cx X w0 bor) hP.tt hr h1
   match l0,l',h2,hk,hrun with
   | [s], [s'],h2,hk,hrun=>
    obtain⟨g1,g2⟩:=ret_row hk hs hr h2.1;exact⟨hr.dfs.trans h0,_,hrun,hR _ g1 g2⟩
   | [_], [],h2,_,_=>simp [RelDL]at h2
   | [_],_::_::_,h2,_,_=>simp [RelDL]at h2
 cases e with
 |normal=>exact fin h
 |ret=>exact fin h
 |exit id=>exact h.elim
 |goto l=>exact hp.elim
 |panic c=>exact hp.elim
 |outgrown=>exact hp.elim
end
theorem does_u {X:Cy} (hP:POK X.P X.tt) {f:FuncId} {fn:Func} {c:Code} (args:List D) {z n:Nat} {l:List D} {ty:TypeId} (hf:X.P.funcs[f]?=some fn) (hb:fn.body=some c) (hn:X.nt=fn.ntmps) (hl:args.length≤fn.ntmps)
 (h:codeY X c ⟨zipY 0 args, [],0⟩ (retUY X fn.results.toList z n l ty)) (h0:X.dfs= []:=by rfl) (hg:fn.ntmps≤gbase:=by exact Nat.le_of_ble_eq_true rfl):DoesU X.P f args z n l ty:=by
 intro ok w vl hrep hok hgi;have hA:=AG.nil ok hgi;refine calls_of_wp hf hb (codeY_ok (A:=fun b=>b<w.heap.size→ok b) (w0:=w) (bor:= []) hA hP c ⟨zipT 0 (vs vl), [],0,w,w.heap.size, []⟩ ⟨zipY 0 args, [],0⟩ _ _ _ _ h ?_ ?_ fun e st' sy' a' w' hp hk hs' hlv=> ?_)
 · refine⟨fun d x hx=> ?_,fun k e he=>by simp [findY]at he,rfl,fun j _=>freshT_zip,fun _ _=>rfl⟩;obtain⟨_,h2⟩:=zipY_look hx;obtain⟨y,h3,h4⟩:=hrep.get h2;right;refine⟨.v y,look_zip (Nat.zero_le _) ?_,Rep.rel _ _ (Rep.mono (fun b hb=>⟨⟨⟨.inl (hok b hb),fun _=>hb⟩,hok b hb,fun c hc=>by simp [bs]at hc⟩,rfl⟩) _ _ h4)⟩;rw [vs_get,h3];rfl
 · refine⟨by simp [cx,hn,←hrep.length];omega,fun d s hs=> ?_,h0.symm,Cls.nil (cx X w []) 0,Nat.le_refl _,by simp⟩;obtain⟨_,h2⟩:=zipT_look (n:=0) hs;simp only [Nat.sub_zero]at h2;rw [vs_get]at h2;cases hv:vl[d]? with
   |none=>rw [hv]at h2;cases h2
   |some y=>
    rw [hv]at h2;cases h2;right;have hlt:=(List.getElem?_eq_some_iff.1 hv).1;rw [slotv,if_pos (by have:=hrep.length;omega),Array.getElem?_append_left (by simpa using hlt)]
    simpa [den]using hv
 · refine ret_own hP hp hk hs' hlv.rel (fun v hrow hbl=>⟨v,rfl,fun b hb=> ?_, ?_,hlv.fx.below⟩) h0
   · rcases hbl b hb with h|h
     · cases h
     · exact h
   · obtain⟨xs,h1,h2,h3,h4⟩:=hrow;refine⟨xs,h1,RepL.mono (fun b hbk=>⟨⟨?_,hbk.2⟩,rfl⟩) _ _ h2,h3,h4⟩;by_cases hlt:b<w.heap.size
     · exact .inl (hbk.1.1 hlt)
     · exact .inr ⟨by omega,hbk.1.2⟩
section
variable {A : Nat → Prop} {X : Cy} {w0 : World} {bor : List Nat} {st : St} {sy : Sy} {a : Act} {w : World}
end
theorem CellsM.mono {ok ok':Nat→Prop} {w:World} {rv:List Value} (hm:∀b,ok b→ok' b):∀(cells:List D) (a:List Value),CellsM ok w rv cells a→CellsM ok' w rv cells a
 | [], [],_=>trivial
 | [],_::_,h=>by simp [CellsM]at h
 |d::cells, [],h=>by cases d<;>simp [CellsM]at h
 |d::cells,y::a,h=>by
  cases d<;>simp only [CellsM]at h⊢
  case row=>exact⟨h.1,CellsM.mono hm cells a h.2⟩
  all_goals exact⟨Rep.mono (fun b hb=>⟨hm b hb,rfl⟩) _ _ h.1,CellsM.mono hm cells a h.2⟩
theorem RowsM.mono {ok ok':Nat→Prop} {w:World} (hm:∀b,ok b→ok' b):∀(rows:List (Nat×Nat×List D×TypeId)) (rv:List Value),RowsM ok w rows rv→RowsM ok' w rows rv
 | [], [],_=>trivial
 | [],_::_,h=>by simp [RowsM]at h
 |_::_, [],h=>by simp [RowsM]at h
 |(z,n,l,ty)::rows,v::rv,h=>by
  simp only [RowsM]at h⊢;obtain⟨⟨xs,h1,h2,h3⟩,h4⟩:=h;exact⟨⟨xs,h1,RepL.mono (fun b hb=>⟨hm b hb,rfl⟩) _ _ h2,h3⟩,RowsM.mono hm rows rv h4⟩
section
variable {A : Nat → Prop} {X : Cy} {w0 : World} {bor : List Nat} {Q : Exit → Act → World → Prop}
end
section
variable {X : Cy} {Q : Exit → Act → World → Prop} {t e esz bytes : Nat} {i ie : TI} {a : Act} {w : World} {g n cap m : Nat} {cur : Array Value}
end
def nodef (o:Oper):Bool:=match o.op with| .defer _=>false|_=>true
def nodefs:List Oper→Bool
 | []=>true
 |o::l=>match nodef o with|true=>nodefs l|false=>false
def dstOK (fz:List Nat) (o:Oper):Bool:=match o.dst with|none=>true|some d=>match memN d fz with|true=>false|false=>true
def dstsOK (fz:List Nat):List Oper→Bool
 | []=>true
 |o::l=>match dstOK fz o with|true=>dstsOK fz l|false=>false
def roundOK (fz:List Nat):Code→Bool
 | .region _ ops _=>match nodefs ops.toList with|true=>dstsOK fz ops.toList|false=>false
 | .seq a b=>match roundOK fz a with|true=>roundOK fz b|false=>false
 | .cond _ a b=>match roundOK fz a with|true=>roundOK fz b|false=>false
 | .block _ c=>roundOK fz c
 | .loop c=>roundOK fz c
 | .skip=>true
 | .label _=>true
 | .exit _=>true
 | .ret=>true
 |_=>false
theorem nodefs_mem {l:List Oper} (h:nodefs l=true):∀o,o∈l→nodef o=true:=by
 induction l with
 |nil=>simp
 |cons x l ih=>
  simp only [nodefs]at h;split at h
  · rename_i hx;intro o ho;rcases List.mem_cons.1 ho with rfl|ho
    · exact hx
    · exact ih h o ho
  · cases h
theorem wpIn_ends {P:Program} {l n:Nat} {a:Act} {w:World} {o:Oper} {K:Act→World→Prop} {Q Q':Exit→Act→World→Prop} (h:o.wpIn (Fence.wide.inRound l) n P a w K Q) (hq:¬LetsOut Q) (hp:∀c a w,¬Q (.panic c) a w):o.wpIn (Fence.wide.inRound l) n P a w K Q':=by
 unfold Oper.wpIn at*;refine⟨h.1, ?_⟩;have h:=h.2;generalize (o.semAt (Fence.wide.inRound l).round a.eval).run P w=r at*;cases r with
 |ok x w'=>
  cases x with
  |value v=>exact h
  |skip=>exact h
  |defer d=>exact h
  |enter f args=>
   refine⟨h.1,h.2.mono fun e w'' he=> ?_⟩;cases e with
   |returned v=>exact he
   |panicked c=>exact absurd he (hp _ _ _)
   |outgrown=>exact absurd he hq
  |row row args=>exact h
  |round l f tmps assign body=>
   refine⟨h.1,h.2.mono fun e w'' he=> ?_⟩;cases e with
   |returned v=>exact he
   |panicked c=>exact absurd he (hp _ _ _)
   |outgrown=>exact absurd he hq
  |_=>exact h.elim
 |halt hl w'=>
  cases hl with
  |panic v=>exact absurd h (hp _ _ _)
  |_=>exact h.elim
theorem dstsOK_mem {fz:List Nat} {l:List Oper} (h:dstsOK fz l=true):∀o,o∈l→dstOK fz o=true:=by
 induction l with
 |nil=>simp
 |cons x l ih=>
  simp only [dstsOK]at h;split at h
  · rename_i hx;intro o ho;rcases List.mem_cons.1 ho with rfl|ho
    · exact hx
    · exact ih h o ho
  · cases h
def kept (fz:List Nat) (a a':Act):Prop:=∀d,d∈fz→a'.tmps[d]?=a.tmps[d]?
theorem kept_put {fz:List Nat} {a0 a:Act} {o:Oper} {v:Value} (hd:dstOK fz o=true) (h:kept fz a0 a):kept fz a0 (a.put o.dst v):=by
 intro d hm;rw [←h d hm];unfold dstOK at hd;cases ho:o.dst with
 |none=>simp [Act.put]
 |some e=>
  rw [ho]at hd;simp only at hd;split at hd
  · cases hd
  · rename_i hn;have hne:e≠d:=fun e'=>by subst e';rw [memN_iff.2 hm]at hn;cases hn
    simp [Act.put,hne]
section
variable {P : Program} {l n : Nat} {a a0 : Act} {w : World} {Q : Exit → Act → World → Prop} {fz : List Nat}
theorem oper_in {o:Oper} {K:Act→World→Prop} (hn:nodef o=true) (hd:dstOK fz o=true) (hk:kept fz a0 a) (h:o.wp P a w K Q):o.wpIn (Fence.wide.inRound l) n P a w (fun a' w'=>kept fz a0 a'∧K a' w') Q:=by
 unfold Oper.wp at h;unfold Oper.wpIn;refine⟨fun _ _=>trivial, ?_⟩;have hne:∀c,o.op≠ .defer c:=fun c e=>by simp [nodef,e]at hn
 rw [Fence.inRound_round,Oper.semAt_some l a.eval o hne];generalize (execOp a.eval o).run P w=r at*;cases r with
 |ok x w'=>
  cases x with
  |value v=>exact⟨kept_put hd hk,h⟩
  |skip=>exact⟨kept_put hd hk,h⟩
  |defer d=>exact⟨kept_put (a:= { a with defers:=d::a.defers}) hd hk,h⟩
  |enter f args=>
   refine⟨fun h=>by simp [Fence.wide]at h,((callsIn_wide.2 h).inRound l).mono fun e w'' he=> ?_⟩;cases e with
   |returned v=>exact⟨kept_put hd hk,he⟩
   |panicked c=>exact he
   |outgrown=>exact he
  |row row args=>
   refine⟨fun h=>by simp [Fence.wide]at h,fun c cs _=> ?_⟩;obtain⟨v,w',r,s⟩:=h c cs;exact⟨v,w',⟨kept_put hd hk,r⟩,stepsIn_wide.2 s⟩
  |_=>exact h.elim
 |halt hl w'=>cases hl<;>exact h
theorem list_in {ops:Array Oper} (hq:¬LetsOut Q) (hp:∀c a w,¬Q (.panic c) a w):∀(rest:List Oper) (a:Act) (w:World),(∀o,o∈rest→nodef o=true)→(∀o,o∈rest→dstOK fz o=true)→kept fz a0 a→wpList P ops Q rest a w→wpListIn (Fence.wide.inRound l) n P ops (fun e a' w'=>kept fz a0 a'∧Q e a' w') rest a w
 | [],a,w,_,_,hk,h=>⟨hk,h⟩
 |o::rest,a,w,hn,hd,hk,h=>by
  have ih:=fun a w hk=>list_in (ops:=ops) hq hp rest a w (fun o ho=>hn o (List.mem_cons_of_mem _ ho)) (fun o ho=>hd o (List.mem_cons_of_mem _ ho)) hk
  simp only [wpList]at h;simp only [wpListIn];split at h
  · rename_i hw;rw [if_pos hw];rcases h with h|⟨_,h⟩
    · exact wpIn_ends (Oper.wpIn_mono (fun a w h=>ih a w h.1 h.2) (oper_in (hn o List.mem_cons_self) (hd o List.mem_cons_self) hk h)) hq hp
    · exact absurd h hq
  · rename_i hw;rw [if_neg hw];exact⟨fun _ _=>trivial,ih _ _ (kept_put (hd o List.mem_cons_self) hk) h⟩
theorem any_in {ops:Array Oper} {md:Region.Mode} (hq:¬LetsOut Q) (hp:∀c a w,¬Q (.panic c) a w) (hn:∀o,o∈ops.toList→nodef o=true) (hd:∀o,o∈ops.toList→dstOK fz o=true):∀(fuel:Nat) (listed:Array Bool) (a:Act) (w:World),kept fz a0 a→wpAny P md ops Q fuel listed a w→wpAnyIn (Fence.wide.inRound l) n P md ops (fun e a' w'=>kept fz a0 a'∧Q e a' w') fuel listed a w
 |0,listed,a,w,hk,h=>⟨h.1,hk,h.2⟩
 |fuel+1,listed,a,w,hk,h=>by
  refine⟨fun hr=>⟨hk,h.1 hr⟩,fun i hi=> ?_⟩;have h2:=h.2 i hi;unfold wpOp at h2;unfold wpOpIn;cases ho:ops[i]? with
  |none=>rw [ho]at h2;exact any_in hq hp hn hd fuel _ a w hk h2
  |some o=>
   rw [ho]at h2;have hm:=List.mem_of_getElem? (show ops.toList[i]?=some o by simpa using ho)
   simp only at h2⊢;split at h2
   · rename_i hw;rw [if_pos hw];rcases h2 with h2|⟨_,h2⟩
     · exact wpIn_ends (Oper.wpIn_mono (fun a w h=>any_in hq hp hn hd fuel _ a w h.1 h.2) (oper_in (hn o hm) (hd o hm) hk h2)) hq hp
     · exact absurd h2 hq
   · rename_i hw;rw [if_neg hw];exact⟨fun _ _=>trivial,any_in hq hp hn hd fuel _ _ _ (kept_put (hd o hm) hk) h2⟩
end
section
variable {A : Nat → Prop} {X : Cy} {w0 : World} {bor : List Nat}
theorem codeY_okIn (l n:Nat) (fz:List Nat) (hA:AG A X.P w0 bor) (hP:POK X.P X.tt) (c:Code) (hc:roundOK fz c=true):∀(st:St) (sy:Sy) (a0 a:Act) (w:World) (K:Exit→Sy→Prop) (Q:Exit→Act→World→Prop),kept fz a0 a→codeY X c sy K→Sim A st sy→Rel (cx X w0 bor) st a w→
 (∀e st' sy' a' w',plain e→K e sy'→Sim A st' sy'→Lv (cx X w0 bor) st.H w st' a' w'→kept fz a0 a'→Q e a' w')→c.wpIn (Fence.wide.inRound l) n X.P Q a w:=by
 induction c with
 |skip=>exact fun st sy a0 a w K Q hk h hs hr hQ=>wpIn_skip (hQ .normal st sy a w trivial h hs (Lv.refl hr) hk)
 |label l=>exact fun st sy a0 a w K Q hk h hs hr hQ=>wpIn_label (hQ .normal st sy a w trivial h hs (Lv.refl hr) hk)
 |exit id=>exact fun st sy a0 a w K Q hk h hs hr hQ=>wpIn_exit (hQ (.exit id) st sy a w trivial h hs (Lv.refl hr) hk)
 |ret=>exact fun st sy a0 a w K Q hk h hs hr hQ=>wpIn_ret (hQ .ret st sy a w trivial h hs (Lv.refl hr) hk)
 |region id ops draw=>
  intro st sy a0 a w K Q hkp h hs hr hQ;simp only [roundOK]at hc;split at hc
  · rename_i hn0;have hn:=nodefs_mem hn0;have hd:=dstsOK_mem hc
    have hno:¬LetsOut fun e a w=>e=Exit.normal∧(kept fz a0 a→Q e a w):=by
     rintro⟨a,w,h,_⟩;cases h
    have hpn:∀c a w,¬((Exit.panic c)=Exit.normal∧(kept fz a0 a→Q (.panic c) a w)):=by
     rintro c a w ⟨h,_⟩;cases h
    have hmono:∀e a w,(kept fz a0 a∧(e=Exit.normal∧(kept fz a0 a→Q e a w)))→Q e a w:=fun _ _ _ h=>h.2.2 h.1
    cases draw with
    |false=>exact wpIn_mono (wpIn_region_list (list_in hno hpn _ _ _ hn hd hkp (opsY_ok hA hP ops.toList _ _ a w _ h hs hr fun st' sy' a' w' hk hs' hl=>⟨rfl,hQ .normal st' sy' a' w' trivial hk hs' hl⟩))) hmono
    |true=>
     simp only [codeY]at h;split at h
     · obtain⟨T,H,nk⟩:=sy;obtain⟨T',H',nk',ws,lo,iv⟩:=st;have hx:=planY_sim (w0:=w0) (bor:=bor) hA hP _ h.2 (kill_sim (ops:=ops.toList) hs);exact wpIn_mono (wpIn_region_any hP.mix (any_in hno hpn hn hd _ _ _ _ hkp (region_draw_any (X:=cx X w0 bor) hP hr h.1 hx fun st' a' w' ⟨sy',hk,hs'⟩ hl=>⟨rfl,hQ .normal st' sy' a' w' trivial hk hs' hl⟩))) hmono
     · exact h.elim
  · cases hc
 |seq x y ihx ihy=>
  intro st sy a0 a w K Q hkp h hs hr hQ;simp only [roundOK]at hc;split at hc
  · rename_i hcx;refine wpIn_seq (ihx hcx st sy a0 a w _ _ hkp h hs hr fun e st1 sy1 a1 w1 hp hk hs1 hl hkp1=> ?_);cases e with
    |normal=>exact ihy hc st1 sy1 a0 a1 w1 K Q hkp1 hk hs1 hl.rel fun e st2 sy2 a2 w2 hp hk2 hs2 hl2=>hQ e st2 sy2 a2 w2 hp hk2 hs2 (Lv.trans hl hl2)
    |exit id=>exact hQ _ _ _ _ _ hp hk hs1 hl hkp1
    |ret=>exact hQ _ _ _ _ _ hp hk hs1 hl hkp1
    |goto l=>exact hp.elim
    |panic c=>exact hp.elim
    |outgrown=>exact hp.elim
  · cases hc
 |cond c x y ihx ihy=>
  intro st sy a0 a w K Q hkp h hs hr hQ;simp only [roundOK]at hc;split at hc
  · rename_i hcx;simp only [codeY]at h;split at h
    · rename_i b hcd;obtain⟨s,h1,h2,_⟩:=evY_sim hs hcd;have:=h2.sc;subst this;have hb:a.eval c= .bool b:=by simpa [den]using (hr.ev c _ h1).2
      cases b with
      |true=>exact wpIn_cond_true hb (ihx hcx st sy a0 a w K Q hkp h hs hr hQ)
      |false=>exact wpIn_cond_false hb (ihy hc st sy a0 a w K Q hkp h hs hr hQ)
    · exact h.elim
  · cases hc
 |block id c ih=>
  intro st sy a0 a w K Q hkp h hs hr hQ;refine wpIn_block (ih hc st sy a0 a w _ _ hkp h hs hr fun e st1 sy1 a1 w1 hp hk hs1 hl hkp1=> ?_);cases e with
  |normal=>exact hQ _ _ _ _ _ hp hk hs1 hl hkp1
  |exit j=>
   simp only [Exit.inBlock];simp only at hk;split at hk
   · rename_i hb;rw [if_pos (beqT hb)];exact hQ .normal _ _ _ _ trivial hk hs1 hl hkp1
   · rename_i hb;rw [if_neg (beqF hb)];exact hQ _ _ _ _ _ hp hk hs1 hl hkp1
  |ret=>exact hQ _ _ _ _ _ hp hk hs1 hl hkp1
  |goto l=>exact hp.elim
  |panic c=>exact hp.elim
  |outgrown=>exact hp.elim
 |loop c ih=>
  intro st sy a0 a w K Q hkp h hs hr hQ;have h:LoopY (codeY X c) sy K:=h;obtain⟨α,f,inv,μ,⟨x0,hsub,hinv⟩,hround⟩:=h.ex;obtain⟨st0,hs0,hr0,hb0⟩:=hsub.rel hA hs hr;refine wpIn_loop_ghost (fun n a1 w1=>∃x,μ x=n∧inv x∧kept fz a0 a1∧∃st1,Sim A st1 (f x)∧Lv (cx X w0 bor) st.H w st1 a1 w1) (μ x0) ⟨x0,rfl,hinv,hkp,st0,hs0,hr0,Fx.refl _ _,fun b hb=> .inl (hb0 b hb)⟩ ?_;rintro n a1 w1 ⟨x,rfl,hinv1,hkp1,st1,hs1,hlv⟩;refine ih hc st1 (f x) a0 a1 w1 _ _ hkp1 (hround x hinv1) hs1 hlv.rel fun e st2 sy2 a2 w2 hp hk hs2 hl hkp2=> ?_
  have hl2:=Lv.trans hlv hl;cases e with
  |normal=>
   obtain⟨y,hsb,hi,hlt⟩:=hk;obtain⟨st3,hs3,hr3,hb3⟩:=hsb.rel hA hs2 hl2.rel;exact⟨μ y,hlt,y,rfl,hi,hkp2,st3,hs3,hr3,hl2.fx,fun b hb=>hl2.bs b (hb3 b hb)⟩
  |exit j=>exact hQ _ _ _ _ _ hp hk hs2 hl2 hkp2
  |ret=>exact hQ _ _ _ _ _ hp hk hs2 hl2 hkp2
  |goto l=>exact hp.elim
  |panic c=>exact hp.elim
  |outgrown=>exact hp.elim
 |_=>exact absurd hc (by simp [roundOK])
end
mutual
theorem Rep.keep {ok ok':Nat→Prop} {w w':World} (hm:∀b,ok b→ok' b∧(∀p c,w.cell? ⟨b,p,none⟩=some c→w'.cell? ⟨b,p,none⟩=some c)∧∀es c,w.heap[b]?=some (Obj.map es c)→w'.heap[b]?=some (Obj.map es c)):∀(d:D) (y:Value),Rep ok w d y→Rep ok' w' d y
 | .v x,y,h=>h
 | .agg l,y,h=>by
  simp only [Rep]at h⊢;obtain⟨a,h1,h2,h3⟩:=h;exact⟨a,h1,RepL.keep hm l _ h2,h3⟩
 | .lst z n l,y,h=>by
  simp only [Rep]at h⊢;obtain⟨a,c,h1,h2,h3,h4,h5,h6⟩:=h;refine⟨a,c,h1,h2,h3,h4,h5, ?_⟩;rcases h6 with h6|⟨b,o,xs,e1,e2,e3,e4⟩
  · exact .inl h6
  · refine .inr ⟨b,o,xs,e1,(hm b e2).1,RepL.keep hm l _ e3,fun j hj=> ?_⟩;have hlt:j<xs.length:=by rw [←RepL.length e3,h4];exact hj
    have hx:=e4 j hj;rw [List.getElem?_eq_getElem hlt]at hx⊢;exact(hm b e2).2.1 _ _ hx
 | .ptr l o,y,h=>by
  simp only [Rep]at h⊢;obtain⟨b,p,xs,e1,e2,e5,e3,e4⟩:=h;refine⟨b,p,xs,e1,(hm b e2).1,e5,RepL.keep hm l _ e3,fun j hj=> ?_⟩;have hlt:j<xs.length:=by rw [←RepL.length e3];exact hj
  have hx:=e4 j hj;rw [List.getElem?_eq_getElem hlt]at hx⊢;exact(hm b e2).2.1 _ _ hx
 | .fn f a b,y,h=>by
  simp only [Rep]at h⊢;obtain⟨p,q,h1,h2,h3⟩:=h;exact⟨p,q,h1,RepL.keep hm a _ h2,RepL.keep hm b _ h3⟩
 | .tup l,y,h=>by
  simp only [Rep]at h⊢;obtain⟨a,h1,h2⟩:=h;exact⟨a,h1,RepL.keep hm l _ h2⟩
 | .mp l,y,h=>by
  simp only [Rep]at h⊢;obtain⟨r,es,c,h1,h2,h3,h4⟩:=h;exact⟨r,es,c,h1,(hm r h2).1,(hm r h2).2.2 _ _ h3,h4⟩
 | .own _ _,_,h=>by simp [Rep]at h
 | .ownx _ _,_,h=>by simp [Rep]at h
 | .row _ _,_,h=>by simp [Rep]at h
 | .elr _ _ _ _,_,h=>by simp [Rep]at h
 | .osl _ _ _ _ _,_,h=>by simp [Rep]at h
 | .und,_,h=>by simp [Rep]at h
 | .bad,_,h=>by simp [Rep]at h
theorem RepL.keep {ok ok':Nat→Prop} {w w':World} (hm:∀b,ok b→ok' b∧(∀p c,w.cell? ⟨b,p,none⟩=some c→w'.cell? ⟨b,p,none⟩=some c)∧∀es c,w.heap[b]?=some (Obj.map es c)→w'.heap[b]?=some (Obj.map es c)):∀(l:List D) (r:List Value),RepL ok w l r→RepL ok' w' l r
 | [], [],_=>trivial
 |d::l,y::r,h=>by
  simp only [RepL]at h⊢;exact⟨Rep.keep hm d y h.1,RepL.keep hm l r h.2⟩
 | [],_::_,h=>by simp [RepL]at h
 |_::_, [],h=>by simp [RepL]at h
end
mutual
theorem RelD.keep {ok ok':Nat→Prop} {w w':World} {R R':Bool→Nat→Prop} (hm:∀b,ok b→ok' b∧(∀p c,w.cell? ⟨b,p,none⟩=some c→w'.cell? ⟨b,p,none⟩=some c)∧∀es c,w.heap[b]?=some (Obj.map es c)→w'.heap[b]?=some (Obj.map es c)) (hR:∀q k,R q k→R' q k):∀(d:D) (s:SV),RelD ok w R d s→RelD ok' w' R' d s
 | .v x,y,h=>h
 | .agg l,y,h=>by
  simp only [RelD]at h⊢;obtain⟨a,h1,h2,h3⟩:=h;exact⟨a,h1,RelDL.keep hm hR l _ h2,h3⟩
 | .lst z n l,y,h=>by
  simp only [RelD]at h⊢;obtain⟨a,h1,h2⟩:=h;exact⟨a,h1,Rep.keep hm _ _ h2⟩
 | .ptr l o,y,h=>by
  simp only [RelD]at h⊢;obtain⟨a,h1,h2⟩:=h;exact⟨a,h1,Rep.keep hm _ _ h2⟩
 | .mp l,y,h=>by
  simp only [RelD]at h⊢;obtain⟨a,h1,h2⟩:=h;exact⟨a,h1,Rep.keep hm _ _ h2⟩
 | .own k o,y,h=>by simp only [RelD]at h⊢;exact⟨h.1,hR _ k h.2⟩
 | .ownx k o,y,h=>by simp only [RelD]at h⊢;exact⟨h.1,hR _ k h.2⟩
 | .row k z,y,h=>by simp only [RelD]at h⊢;exact⟨h.1,hR _ k h.2⟩
 | .elr k z i o,y,h=>by simp only [RelD]at h⊢;exact⟨h.1,hR _ k h.2⟩
 | .osl k o z n c,y,h=>by simp only [RelD]at h⊢;exact⟨h.1,hR _ k h.2⟩
 | .tup l,y,h=>by
  simp only [RelD]at h⊢;rcases h with⟨cs,h1,h2⟩|⟨a,h1,h2⟩
  · exact .inl ⟨cs,h1,RelDL.keep hm hR l _ h2⟩
  · exact .inr ⟨a,h1,RelDL.keep hm hR l _ h2⟩
 | .fn f a b,y,h=>by
  simp only [RelD]at h⊢;rcases h with⟨p,q,h1,h2,h3⟩|⟨p,q,h1,h2,h3⟩
  · exact .inl ⟨p,q,h1,RelDL.keep hm hR a _ h2,RelDL.keep hm hR b _ h3⟩
  · exact .inr ⟨p,q,h1,RelDL.keep hm hR a _ h2,RelDL.keep hm hR b _ h3⟩
 | .und,_,h=>h
 | .bad,_,h=>h
theorem RelDL.keep {ok ok':Nat→Prop} {w w':World} {R R':Bool→Nat→Prop} (hm:∀b,ok b→ok' b∧(∀p c,w.cell? ⟨b,p,none⟩=some c→w'.cell? ⟨b,p,none⟩=some c)∧∀es c,w.heap[b]?=some (Obj.map es c)→w'.heap[b]?=some (Obj.map es c)) (hR:∀q k,R q k→R' q k):∀(l:List D) (r:List SV),RelDL ok w R l r→RelDL ok' w' R' l r
 | [], [],_=>trivial
 |d::l,y::r,h=>by
  simp only [RelDL]at h⊢;exact⟨RelD.keep hm hR d y h.1,RelDL.keep hm hR l r h.2⟩
 | [],_::_,h=>by simp [RelDL]at h
 |_::_, [],h=>by simp [RelDL]at h
end
def ctlO:Obj→Bool
 | .cells _ _ _=>false
 | .map _ _=>false
 |_=>true
theorem entAt_cells {H:Hp} {w:World} {e:Ent} {b:Nat} (h:entAt 0 H w e) (hb:b∈bsE e):∃o,w.heap[b]?=some o∧ctlO o=false:=by
 cases e with
 |blk b' cs ty=>
  simp only [bsE,List.mem_singleton]at hb;subst hb;obtain⟨xs,_,h⟩:=h;exact⟨_,h,rfl⟩
 |mp b' es ty=>
  simp only [bsE,List.mem_singleton]at hb;subst hb;obtain⟨_,_,h,_⟩:=h;exact⟨_,h,rfl⟩
 |row v n xs z ty=>
  obtain⟨_,h⟩:=(show w.ownsRow 0 ty z v n xs from h);rcases h with⟨rfl,_⟩|⟨g,cap,cur,rfl,_,hg,_⟩
  · simp [bsE,ownB]at hb
  · simp [bsE,ownB]at hb;subst hb;exact⟨_,hg,rfl⟩
section
variable {A : Nat → Prop} {X : Cy} {w0 : World} {bor : List Nat} {st : St} {sy : Sy} {a : Act} {W W' : World}
theorem turn {row:Option Nat} (hs:Sim A st sy) (hr:Rel (cx X w0 bor) st a W) (hg:W.grownBy W' row) (hrow:∀r,row=some r→w0.heap.size≤r∧∃o:Obj,W.heap[r]?=some o∧ctlO o=true):Sim A (now st W') sy∧Rel (cx X w0 bor) (now st W') a W':=by
 have hs0:=hs.now hr.cls;have hr0:=hr.now
 have hcell:∀b p c,W.cell? ⟨b,p,none⟩=some c→W'.cell? ⟨b,p,none⟩=some c:=by
  intro b p c h;by_cases hb:b<W.heap.size
  · by_cases hrb:row=some b
    · obtain⟨_,o,ho,hc⟩:=hrow b hrb;simp only [World.cell?,ho]at h;cases o<;>simp_all [ctlO]
    · simp only [World.cell?,hg.block b hb (fun e=>hrb e.symm)]at h⊢;exact h
  · simp [World.cell?,Array.getElem?_eq_none (Nat.le_of_not_lt hb)]at h
 have hmap:∀(b:Nat) es c,W.heap[b]?=some (Obj.map es c)→W'.heap[b]?=some (Obj.map es c):=by
  intro b es c h;rw [hg.block b (Array.getElem?_eq_some_iff.1 h).1 fun hrb=> ?_]
  · exact h
  · obtain⟨_,o,ho,hc⟩:=hrow b hrb.symm;rw [h]at ho;cases ho;simp [ctlO]at hc
 have hok:∀b,okS A (now st W) b→okS A (now st W') b∧(∀p c,W.cell? ⟨b,p,none⟩=some c→W'.cell? ⟨b,p,none⟩=some c)∧∀es c,W.heap[b]?=some (Obj.map es c)→W'.heap[b]?=some (Obj.map es c):=fun b hb=>
  ⟨⟨⟨.inl (Nat.lt_of_lt_of_le hb.2.1 hg.size),hb.1.2⟩,Nat.lt_of_lt_of_le hb.2.1 hg.size,hb.2.2⟩,hcell b,hmap b⟩
 constructor
 · refine⟨fun d x hx=> ?_,fun k e he=> ?_,hs0.nk,hs0.fT,hs0.fH⟩
   · rcases hs0.T d x hx with h|⟨s,h1,h2⟩
     · exact .inl h
     · exact .inr ⟨s,h1,RelD.keep hok (fun _ _ h=>h) _ _ h2⟩
   · obtain⟨e',h1,h2⟩:=hs0.H k e he;refine⟨e',h1, ?_⟩;cases e<;>cases e'<;>simp only [RelE]at h2⊢
     · exact⟨h2.1,RelDL.keep hok (fun _ _ h=>h) _ _ h2.2⟩
     · exact⟨h2.1,h2.2.1,h2.2.2.1,RepL.keep hok _ _ h2.2.2.2.1,h2.2.2.2.2⟩
     · exact h2
 · have hc:=hr0.cls
   have hbs:∀k e,(k,e)∈st.H→∀b,b∈bsE e→W'.heap[b]?=W.heap[b]?:=by
    intro k e he b hb;obtain⟨q,hcl,hctl⟩:=entAt_cells (hc.own k e he) hb;refine hg.block b (by rw [Array.getElem?_eq_some_iff]at hcl;exact hcl.1) fun hrb=> ?_
    obtain⟨_,o,ho,hno⟩:=hrow b hrb.symm;rw [hcl]at ho;cases ho;rw [hctl]at hno;cases hno
   refine⟨hr0.size,hr0.T,hr0.dfs,⟨Fx.refl _ _, ?_,fun k e he=>entAt_keep (hc.own k e he) (hbs k e he),hc.nd,hc.lb,hc.keys,hc.lt⟩,Nat.le_refl _,by simp [now]⟩;have f0:=hc.fx0;refine⟨hg.os.trans f0.os,hg.tape.trans f0.tape,hg.output.trans f0.output,Nat.le_trans f0.size hg.size,fun i hi hn=> ?_⟩;rw [hg.block i (Nat.lt_of_lt_of_le hi f0.size) fun e=>by have:=(hrow i e.symm).1;exact absurd hi (Nat.not_lt.2 this)];exact f0.block i hi hn
end
def restr (fz:List Nat):List (Nat×SV)→List (Nat×SV)
 | []=> []
 |(d,s)::T=>match memN d fz with|true=>(d,s)::restr fz T|false=>restr fz T
theorem look_restr {fz:List Nat} {d:Nat} (hd:d∈fz) (T:List (Nat×SV)):look (restr fz T) d=look T d:=by
 induction T with
 |nil=>rfl
 |cons p T ih=>
  obtain⟨e,s⟩:=p;simp only [restr];cases hm:memN e fz with
  |true=>simp only [look,ih]
  |false=>
   have hne:Nat.beq e d=false:=beqN fun e'=>by subst e';rw [memN_iff.2 hd]at hm;cases hm
   simp only [look,hne,ih]
theorem look_restr_none {fz:List Nat} {d:Nat} {s:SV} {T:List (Nat×SV)} (h:look (restr fz T) d=some s):d∈fz:=by
 induction T with
 |nil=>simp [restr,look]at h
 |cons p T ih=>
  obtain⟨e,s⟩:=p;simp only [restr]at h;cases hm:memN e fz with
  |true=>
   rw [hm]at h;simp only [look]at h;split at h
   · rename_i hb;obtain rfl:=beqT hb;exact memN_iff.1 hm
   · exact ih h
  |false=>rw [hm]at h;exact ih h
theorem fresh_restr {fz:List Nat} {j:Nat} {T:List (Nat×SV)} (h:freshT j T=true):freshT j (restr fz T)=true:=by
 induction T with
 |nil=>rfl
 |cons p T ih=>
  obtain⟨e,s⟩:=p;simp only [freshT]at h;simp only [restr];cases hm:memN e fz with
  |true=>
   cases hx:ment j s with
   |true=>rw [hx]at h;cases h
   |false=>rw [hx]at h;simp only [freshT,hx];exact ih h
  |false=>
   cases hx:ment j s with
   |true=>rw [hx]at h;cases h
   |false=>rw [hx]at h;exact ih h
section
variable {A : Nat → Prop} {X : Cy} {w0 : World} {bor : List Nat} {st : St} {sy : Sy} {a a' : Act} {W : World} {fz : List Nat}
theorem carry (hs:Sim A st sy) (hr:Rel (cx X w0 bor) st a' W) (hk:kept fz a a') (hsz:a.tmps.size=X.nt) (hT:∀d x,lookY sy.T d=some x→d∈fz) (ds:List Deferred) (hds:a.defers=ds):
 Sim A ⟨restr fz st.T,st.H,st.nk,st.w,st.lo,st.iv⟩ sy∧Rel (cx { X with dfs:=ds} w0 bor) ⟨restr fz st.T,st.H,st.nk,st.w,st.lo,st.iv⟩ a W:=by
 constructor
 · refine⟨fun d x hx=> ?_,hs.H,hs.nk,fun j hj=>fresh_restr (hs.fT j hj),hs.fH⟩;rcases hs.T d x hx with h|⟨s,h1,h2⟩
   · exact .inl h
   · exact .inr ⟨s,by rw [look_restr (hT d x hx)];exact h1,h2⟩
 · refine⟨⟨hsz,hr.size.2⟩,fun d s h=> ?_,hds,⟨hr.cls.fx,hr.cls.fx0,hr.cls.own,hr.cls.nd,hr.cls.lb,hr.cls.keys,hr.cls.lt⟩,hr.lo,hr.iv⟩;have hd:=look_restr_none h;rw [look_restr hd]at h;rcases hr.T d s h with h|h
   · exact .inl h
   · right;simp only [slotv]at h⊢;rw [←hk d hd];exact h
def zipP:List Nat→List Value→Array Value→Array Value
 |p::ps,v::vs,t=>zipP ps vs (t.setIfInBounds p v)
 |_,_,t=>t
theorem zipP_eq:∀(ps:List Nat) (vs:List Value) (t:Array Value),(ps.zip vs).foldl (fun t (p:Nat×Value)=>t.setIfInBounds p.1 p.2) t=zipP ps vs t
 | [],_,t=>rfl
 |p::ps, [],t=>rfl
 |p::ps,v::vs,t=>by simp only [List.zip_cons_cons,List.foldl_cons,zipP];exact zipP_eq ps vs _
def bindY (X:Cy):List Nat→List D→Sy→(Sy→Prop)→Prop
 | [], [],st,K=>K st
 |p::ps,d::ds,st,K=>putY X st (some p) d fun st=>bindY X ps ds st K
 |_,_,_,_=>False
theorem put_same {Xx:Cx} {dst:Option Nat} {s:SV} {K:St→Prop} (h:put Xx st dst s K):put Xx st dst s fun st'=>K st'∧st'.w=st.w∧st'.H=st.H∧st'.lo=st.lo∧st'.iv=st.iv:=by
 unfold put at h⊢;cases dst with
 |none=>exact⟨h,rfl,rfl,rfl,rfl⟩
 |some d=>
  obtain⟨T,H,nk,w,lo,iv⟩:=st;simp only at h⊢;split at h
  · rename_i hd heq;cases heq;exact⟨h,rfl,rfl,rfl,rfl⟩
  · exact h.elim
theorem okS_same {A:Nat→Prop} {st st':St} (hw:st'.w=st.w) (hH:st'.H=st.H) (hl:st'.lo=st.lo) (hi:st'.iv=st.iv):okS A st'=okS A st:=by
 funext b;simp only [okS,hw,hH,hl,hi]
theorem bind_ok:∀(ps:List Nat) (ds:List D) (vs:List Value) {K:Sy→Prop} {st:St} {sy:Sy} {a:Act},RepL (okS A st) st.w ds vs→bindY X ps ds sy K→Sim A st sy→Rel (cx X w0 bor) st a W→
 ∃st' sy',K sy'∧Sim A st' sy'∧Rel (cx X w0 bor) st' { a with tmps:=zipP ps vs a.tmps} W∧st'.H=st.H
 | [], [],vs,K,st,sy,a,hv,h,hs,hr=>by
  cases vs with
  |nil=>exact⟨st,sy,h,hs,hr,rfl⟩
  |cons v vs=>exact absurd hv (by simp [RepL])
 |p::ps,d::ds, [],K,st,sy,a,hv,h,hs,hr=>absurd hv (by simp [RepL])
 |p::ps,d::ds,v::vs,K,st,sy,a,hv,h,hs,hr=>by
  have hd:Rep (okS A st) st.w d v:=hv.1;have hput:=put_same (putY_sim (w0:=w0) (bor:=bor) (s:= .v v) h hs (Rep.rel _ _ hd));obtain⟨st1,⟨⟨sy1,h1,h2⟩,e1,e2,e3,e4⟩,h3,h4⟩:=put_ok hr hput (v:=v) (.inr (by simp [den]));obtain⟨st2,sy2,g1,g2,g3,g4⟩:=bind_ok ps ds vs (by rw [okS_same e1 e2 e3 e4,e1];exact hv.2) h1 h2 h3;exact⟨st2,sy2,g1,g2,g3,g4.trans h4⟩
 | [],_::_,_,_,_,_,_,_,h,_,_=>h.elim
 |_::_, [],_,_,_,_,_,_,h,_,_=>h.elim
end
def DoesIt (P:Program) (gf:FuncId) (caps:List D) (xs:List (List D)):Prop:=
 ∀(ok O0:Nat→Prop) (W:World) (vl:List Value) (n l:Nat) (J:List (List D)→(Nat→Prop)→World→Prop) (Jx:List (List D)→World→Prop),
  RepL ok W caps vl→(∀b,ok b→b<W.heap.size∧¬O0 b)→(∀b,O0 b→b<W.heap.size)→GIW P W→
  (∀pre O A B,J pre O A→A.grownBy B none→J pre O B)→(∀pre A B,Jx pre A→A.grownBy B none→Jx pre B)→
  (∀pre x vals O W1,J pre O W1→(∀b,O b→b<W1.heap.size)→pre++ [x]<+:xs→RepL (fun b=>(ok b∨W.heap.size≤b)∧b<W1.heap.size∧¬O b) W1 x vals→
   YieldAt Fence.wide n P l vals.toArray W1 fun e W'=>
    GIW P W'∧((e= .returned (.bool true)∧∃O',J (pre++ [x]) O' W'∧W1.heap.size≤W'.heap.size∧(∀b,O' b→b<W'.heap.size∧(O b∨W1.heap.size≤b))∧∀b,b<W1.heap.size→¬O b→W'.heap[b]?=W1.heap[b]?)∨
    (e= .returned (.bool false)∧Jx (pre++ [x]) W')))→
  J [] O0 W→
  CallsIn Fence.wide (n+1) P gf (#[.func (.yield l) #[] #[]]++vl.toArray) W fun e W'=>(∃v,e= .returned v)∧((∃O,J xs O W')∨∃pre,pre<+:xs∧Jx pre W')
def codeOf:Exit→Code
 | .exit id=> .exit id
 |_=> .ret
def RoundK {σ:Type} (f:σ→Sy) (fx:Exit→σ→Sy) (R:List (List D)→σ→Prop) (RX:Exit→List (List D)→σ→Prop) (pre:List (List D)) (e:Exit) (sy:Sy):Prop:=
 match e with
 | .normal=>∃s,R pre s∧SubY sy (f s)
 | .ret=>∃s,RX .ret pre s∧SubY sy (fx .ret s)
 | .exit id=>∃s,RX (.exit id) pre s∧SubY sy (fx (.exit id) s)
 |_=>False
abbrev markD (D:Nat):Deferred:= { target:= .collected D,args:= #[]}
section
variable {A : Nat → Prop} {X : Cy} {w0 : World} {bor : List Nat} {st : St} {sy : Sy} {a : Act} {w : World}
structure Mid (A:Nat→Prop) (X:Cy) (w0:World) (bor:List Nat) (H:Hp) (w:World) (a:Act) (sy:Sy) (W:World):Prop where
 ex:∃st1,Sim A st1 sy∧Rel (cx X w0 bor) st1 a W∧Fx (bs H) w W∧∀b,b∈bs st1.H→b∈bs H∨w.heap.size≤b
theorem Mid.turn {H:Hp} {W W':World} {row:Option Nat} (h:Mid A X w0 bor H w a sy W) (h0:w0.heap.size≤w.heap.size) (hg:W.grownBy W' row) (hrow:∀r,row=some r→w.heap.size≤r∧∃o:Obj,W.heap[r]?=some o∧ctlO o=true):Mid A X w0 bor H w a sy W':=by
 obtain⟨st1,hs,hr,hf,hb⟩:=h.ex;obtain⟨h1,h2⟩:=Sx.turn hs hr hg fun r e=>⟨Nat.le_trans h0 (hrow r e).1,(hrow r e).2⟩
 refine⟨_,h1,h2,⟨hg.os.trans hf.os,hg.tape.trans hf.tape,hg.output.trans hf.output,Nat.le_trans hf.size hg.size,fun i hi hn=> ?_⟩,hb⟩;rw [hg.block i (Nat.lt_of_lt_of_le hi hf.size) fun e=>by have:=(hrow i e.symm).1;omega];exact hf.block i hi hn
def freeOf (fz ps:List Nat):Bool:=match fz with
 | []=>true
 |d::fz=>match memN d ps with|false=>freeOf fz ps|true=>false
theorem freeOf_mem {fz ps:List Nat} (h:freeOf fz ps=true):∀d,d∈fz→d∉ps:=by
 induction fz with
 |nil=>simp
 |cons e fz ih=>
  simp only [freeOf]at h;split at h
  · rename_i h1;intro d hd;rcases List.mem_cons.1 hd with rfl|hd
    · exact fun hm=>absurd (memN_iff.2 hm) (by rw [h1];exact Bool.false_ne_true)
    · exact ih h d hd
  · cases h
def behindY (X:Cy) (body:Code) (K:Exit→Sy→Prop):Exit→Sy→Prop
 | .normal,st=>codeY X body st K
 |_,_=>False
theorem zipP_get {d:Nat}:∀(ps:List Nat) (vs:List Value) (t:Array Value),d∉ps→(zipP ps vs t)[d]?=t[d]?
 | [],_,t,_=>by simp [zipP]
 |p::ps, [],t,_=>by simp [zipP]
 |p::ps,v::vs,t,h=>by
  simp only [List.mem_cons,not_or]at h;simp only [zipP];rw [zipP_get ps vs _ h.2,Array.getElem?_setIfInBounds_ne (fun e=>h.1 e.symm)]
structure KeepsC (B:Nat) (W W':World):Prop where
 size:W.heap.size≤W'.heap.size
 same:∀(k:Nat) (o:Obj),B≤k→W.heap[k]?=some o→ctlO o=true→W'.heap[k]?=some o
theorem keeps_fx {H:Hp} {w W W':World} {a:Act} {st:St} {B:Nat} (hc:Cls (cx X w0 bor) st.H st.nk st.w W) (hf:Fx (bs st.H) W W'):KeepsC B W W':=
 ⟨hf.size,fun k o _ hk ho=>by
  rw [hf.block k (Array.getElem?_eq_some_iff.1 hk).1 fun b hb e=> ?_]
  · exact hk
  · subst e;obtain⟨j,e,he,hbe⟩:=bs_mem.1 hb;obtain⟨q,hcl,hq⟩:=entAt_cells (hc.own j e he) hbe;rw [hcl]at hk;cases hk;rw [hq]at ho;cases ho⟩
def RoundI (A:Nat→Prop) (X:Cy) (w0:World) (bor:List Nat) (H:Hp) (w:World) (a:Act) (sy:Sy) (O:Nat→Prop) (W:World):Prop:=
 ∃st1,Sim A st1 sy∧Rel (cx X w0 bor) st1 a W∧Fx (bs H) w W∧(∀b,b∈bs st1.H→b∈bs H∨w.heap.size≤b)∧∀b,b∈bs st1.H→O b
theorem grown_keep {A B:World} (hg:A.grownBy B none) {k:Nat} {o:Obj} (h:A.heap[k]?=some o):B.heap[k]?=some o:=
 (hg.block k (Array.getElem?_eq_some_iff.1 h).1 (by simp)).trans h
theorem range_ok (hA:AG A X.P w0 bor) (hP:POK X.P X.tt) (hs:Sim A st sy) (hr:Rel (cx X w0 bor) st a w) {g:Operand} {ps:Array Tmp} {assign body:Code} {gf:FuncId} {caps:List D} {vl:List Value} {xs:List (List D)} {Q:Exit→Act→World→Prop}
 (hg:a.eval g= .func (.func gf) #[] vl.toArray) (hcaps:RepL (okS A (now st w)) w caps vl) (hit:DoesIt X.P gf caps xs) (heg:∀args w,(callFunc gf args).run X.P w= .ok (.enter gf args) w) (hps:∀x,x∈xs→x.length=ps.size)
 {fz:List Nat} (hak:roundOK fz assign=true) (hbk:roundOK fz body=true) (hfree:freeOf fz ps.toList=true)
 {σ:Type} (f:σ→Sy) (fx:Exit→σ→Sy) (R:List (List D)→σ→Prop) (RX:Exit→List (List D)→σ→Prop) (s0:σ) (hstart:SubY sy (f s0)) (h0:R [] s0)
 (hdom:∀s d x,lookY (f s).T d=some x→d∈fz) (hdomx:∀e s d x,lookY (fx e s).T d=some x→d∈fz)
 (hround:∀(pre:List (List D)) (s:σ) (x:List D),pre++ [x]<+:xs→R pre s→∃RK:Exit→Sy→Prop,(∀e sy,RK e sy→RoundK f fx R RX (pre++ [x]) e sy)∧bindY { X with dfs:= []} ps.toList x (f s) fun st1=>codeY { X with dfs:= []} assign st1 (behindY { X with dfs:= []} body RK))
 (hdone:∀(D:Nat) (s:σ) (W:World),w.heap.size≤D→W.heap[D]?=some (.deferred (some []))→R xs s→Mid A { X with dfs:=markD D::X.dfs} w0 bor st.H w { a with defers:=markD D::a.defers} (f s) W→Q .normal { a with defers:=markD D::a.defers} W)
 (hstop:∀(dd:Nat) (e:Exit) (pre:List (List D)) (s:σ) (W:World),w.heap.size≤dd→W.heap[dd]?=some (.deferred (some []))→pre<+:xs→RX e pre s→(e= .ret∨∃id,e= .exit id)→Mid A { X with dfs:=markD dd::X.dfs} w0 bor st.H w { a with defers:=markD dd::a.defers} (fx e s) W→Q e { a with defers:=markD dd::a.defers} W):
 (Code.rangeFunc g ps assign body).wp X.P Q a w:=by
 have hw0:w0.heap.size≤w.heap.size:=hr.cls.fx0.size;obtain⟨X0,hX0⟩:∃X0:Cy,X0= { X with dfs:= []}:=⟨_,rfl⟩
 rw [←hX0]at hround;have hP0:POK X0.P X0.tt:=by rw [hX0];exact hP
 have hXP:X.P=X0.P:=by rw [hX0]
 have hA0:AG A X0.P w0 bor:=by rw [hX0];exact hA
 have hsz:a.tmps.size=X.nt:=hr.size.1;obtain⟨a0,ha0⟩:∃a0:Act,a0= { a with defers:= []}:=⟨_,rfl⟩
 obtain⟨J0,hJ0⟩:∃J0:Sy→(Nat→Prop)→World→Prop,J0=RoundI A X0 w0 bor st.H w a0:=⟨_,rfl⟩
 have toMid:∀ {sy':Sy} {st':St} {a':Act} {W:World} (ds:List Deferred),Sim A st' sy'→Rel (cx X0 w0 bor) st' a' W→kept fz a a'→(∀d x,lookY sy'.T d=some x→d∈fz)→Fx (bs st.H) w W→(∀b,b∈bs st'.H→b∈bs st.H∨w.heap.size≤b)→∃st1,Sim A st1 sy'∧Rel (cx { X with dfs:=ds} w0 bor) st1 { a with defers:=ds} W∧st1.H=st'.H:=by
  intro sy' st' a' W ds h1 h2 h3 h4 h5 h6;obtain⟨g1,g2⟩:=carry (a:= { a with defers:=ds}) h1 h2 h3 (by rw [hX0];exact hsz) h4 ds rfl
  exact⟨_,g1,by rw [hX0]at g2;exact g2,rfl⟩
 --the state between two rounds,at the act behind the loop
 have toEnd:∀ {sy':Sy} {O:Nat→Prop} {W:World} (dd:Nat),J0 sy' O W→(∀d x,lookY sy'.T d=some x→d∈fz)→Mid A { X with dfs:=markD dd::X.dfs} w0 bor st.H w { a with defers:=markD dd::a.defers} sy' W:=by
  intro sy' O W D h hd;rw [hJ0]at h;obtain⟨st1,g1,g2,g3,g4,g5⟩:=h;obtain⟨st2,e1,e2,e3⟩:=toMid (markD D::X.dfs) g1 g2 (by rw [ha0];exact fun _ _=>rfl) hd g3 g4;rw [show a.defers=X.dfs from hr.dfs];exact⟨st2,e1,e2,g3,by rw [e3];exact g4⟩
 have giJ:∀ {sy':Sy} {O:Nat→Prop} {W:World},J0 sy' O W→GIW X.P W:=by
  intro sy' O W h;rw [hJ0]at h;obtain⟨_,_,g2,_⟩:=h;exact hA.fx g2.cls.fx0
 have J0turn:∀ {sy':Sy} {O:Nat→Prop} {W W':World} {row:Option Nat},J0 sy' O W→W.grownBy W' row→(∀r,row=some r→w.heap.size≤r∧∃o:Obj,W.heap[r]?=some o∧ctlO o=true)→J0 sy' O W':=by
  intro sy' O W W' row h hg hrow;rw [hJ0]at h⊢;obtain⟨st1,hs,hr,hf,hb,hO⟩:=h;obtain⟨h1,h2⟩:=Sx.turn hs hr hg fun r e=>⟨Nat.le_trans hw0 (hrow r e).1,(hrow r e).2⟩
  refine⟨_,h1,h2,⟨hg.os.trans hf.os,hg.tape.trans hf.tape,hg.output.trans hf.output,Nat.le_trans hf.size hg.size,fun i hi hn=> ?_⟩,hb,hO⟩;rw [hg.block i (Nat.lt_of_lt_of_le hi hf.size) fun e=>by have:=(hrow i e.symm).1;omega];exact hf.block i hi hn
 refine(wpIn_wide (n:=2)).1 (wpIn_rangeFunc ?_);intro fn hfn;obtain⟨rec,hrec⟩:∃rec:LoopState→Option Code→Loop,rec=fun st pe=> { state:=st,pending:=pe,fn,tmps:=a.tmps,params:=ps,assign,body,defers:=w.heap.size}:=⟨_,rfl⟩
 obtain⟨W1,hW1⟩:∃W1,(w.alloc (.deferred (some []))).alloc (.loop (rec .ready none))=W1:=⟨_,rfl⟩;obtain⟨L,hL⟩:∃L,L=w.heap.size+1:=⟨_,rfl⟩;have hsize1:W1.heap.size=w.heap.size+2:=by rw [←hW1];simp
 have hL1:W1.heap[L]?=some (.loop (rec .ready none)):=by
  rw [←hW1,hL];have:=World.alloc_heap_new (w.alloc (.deferred (some []))) (.loop (rec .ready none));rwa [World.size_alloc]at this
 have hK1:W1.heap[w.heap.size]?=some (.deferred (some [])):=by
  rw [←hW1];exact(Below.heap_alloc _ _ _ (by simp)).trans (World.alloc_heap_new w _)
 have hg1:w.grownBy W1 none:=by
  rw [←hW1];have h1:=World.grownBy_alloc w (.deferred (some [])) none;have h2:=World.grownBy_alloc (w.alloc (.deferred (some []))) (.loop (rec .ready none)) none;exact⟨h2.os.trans h1.os,h2.tape.trans h1.tape,h2.output.trans h1.output,Nat.le_trans h1.size h2.size,fun k hk hn=>(h2.block k (Nat.lt_of_lt_of_le hk h1.size) hn).trans (h1.block k hk hn)⟩
 obtain⟨st0,hs0,hr0,hb0⟩:=hstart.rel hA hs hr
 have hr0':Rel (cx X0 w0 bor) st0 a0 w:=by
  rw [hX0,ha0];exact⟨hr0.size,hr0.T,rfl,⟨hr0.cls.fx,hr0.cls.fx0,hr0.cls.own,hr0.cls.nd,hr0.cls.lb,hr0.cls.keys,hr0.cls.lt⟩,hr0.lo,hr0.iv⟩
 obtain⟨O0,hO0⟩:∃O0:Nat→Prop,O0=fun b=>b∈bs st0.H∨b=L∨b=w.heap.size:=⟨_,rfl⟩
 have hJ1:J0 (f s0) O0 W1:=J0turn (row:=none) (W:=w) (by rw [hJ0,hO0];exact⟨st0,hs0,hr0',Fx.refl _ _,fun b hb=> .inl (hb0 b hb),fun b hb=> .inl hb⟩) hg1 (by simp)
 refine⟨L, [{ target:= .collected w.heap.size,args:= #[]}],W1, { target:= .fn (.func gf) vl.toArray,args:= #[.func (.yield L) #[] #[]]},W1,gf,
  #[.func (.yield L) #[] #[]]++vl.toArray,W1, ?_, ?_, ?_, ?_,fun _=>by omega, ?_⟩
 · rw [←hW1,hrec,hL];exact run_enterLoop_outer _ _ _ _ _
 · simp only [resolve,hg];simp [go_sem]
 · intro f' _;trivial
 · simp [invoke,go_sem,heg]
 · refine(hit (okS A (now st w)) O0 W1 vl 0 L
    (fun pre O W=>(∃s,R pre s∧J0 (f s) O W)∧O L∧O w.heap.size∧W.heap[L]?=some (.loop (rec .ready none))∧W.heap[w.heap.size]?=some (.deferred (some [])))
    (fun pre W=>∃e s O,(e= .ret∨∃id,e= .exit id)∧RX e pre s∧J0 (fx e s) O W∧W.heap[L]?=some (.loop (rec .done (some (codeOf e))))∧W.heap[w.heap.size]?=some (.deferred (some [])))
    (RepL.mono (fun b hb=>⟨hb,hg1.block b hb.2.1 (by simp)⟩) _ _ hcaps) ?_ ?_ ((hA.giw hr.cls).same hg1.size fun b hb=>hg1.block b (Nat.lt_of_lt_of_le hb (hA.giw hr.cls).size) (by simp)) ?_ ?_ ?_ ⟨⟨s0,h0,hJ1⟩,by rw [hO0];exact .inr (.inl rfl),by rw [hO0];exact .inr (.inr rfl),hL1,hK1⟩).mono ?_
   · intro b hb;refine⟨by have:=hb.2.1;simp only [now]at this;omega,fun hO=> ?_⟩;rw [hO0]at hO;have h1:b<w.heap.size:=hb.2.1;rcases hO with h|h|h
     · exact hb.2.2 b (hb0 b h) rfl
     · omega
     · omega
   · intro b hb;rw [hO0]at hb;rcases hb with h|h|h
     · have:=hr0.cls.lt_size h;omega
     · omega
     · omega
   · rintro pre O A B ⟨⟨s,h1,h2⟩,h3,h4,h5,h6⟩ hg;exact⟨⟨s,h1,J0turn h2 hg (by simp)⟩,h3,h4,grown_keep hg h5,grown_keep hg h6⟩
   · rintro pre A B ⟨e,s,O,h1,h2,h3,h5,h6⟩ hg;exact⟨e,s,O,h1,h2,J0turn h3 hg (by simp),grown_keep hg h5,grown_keep hg h6⟩
   · --a round
     rintro pre x vals O W ⟨⟨s,hR,hm⟩,hOL,hOD,hl,hk⟩ hO hpre hvals;have hlt:L<W.heap.size:=hO L hOL;have hxm:x∈xs:=hpre.subset (by simp);have hy:=run_yield (P:=X.P) (args:=vals.toArray) hl (by rw [hrec];simp [←hvals.length,hps x hxm]);rw [hrec]at hy;rw [hJ0]at hm;obtain⟨st1,hs1,hr1,hf1,hb1,hO1⟩:=hm;have hs1':=hs1.now hr1.cls;have hr1':=hr1.now;refine⟨fn,_,assign,body,hy,roundIn_of_wpIn hfn ?_⟩
     have hz:(ps.zip vals.toArray).foldl (fun t (p,v)=>t.setIfInBounds p v) a.tmps=zipP ps.toList vals a.tmps:=by
      rw [←zipP_eq,←Array.foldl_toList];simp
     rw [hz]
     have hvals2:RepL (okS A (now st1 W)) (now st1 W).w x vals:=RepL.mono (fun b hb=>by
      refine⟨⟨⟨.inl hb.2.1, ?_⟩,hb.2.1,fun c hc e=>hb.2.2 (e▸hO1 c hc)⟩,rfl⟩;rcases hb.1 with h|h
      · exact h.1.2
      · exact hA.a b (.inl (by omega))) _ _ hvals
     obtain⟨RK,hRK,hrd⟩:=hround pre s x hpre hR;obtain⟨st2,sy2,k2,hs2,hr2,e2⟩:=bind_ok _ _ vals hvals2 hrd hs1' hr1';have e2:st2.H=st1.H:=e2;have hk0:kept fz a { tmps:=zipP ps.toList vals a.tmps,defers:= []}:=fun d hd=>zipP_get _ _ _ (freeOf_mem hfree d hd)
     have ht0:a0.tmps=a.tmps:=by rw [ha0]
     have hd0:a0.defers= []:=by rw [ha0]
     rw [ht0,hd0]at hr2;rw [hXP];refine codeY_okIn (X:=X0) L _ fz hA0 hP0 assign hak st2 sy2 a _ W _ _ hk0 k2 hs2 hr2 fun e st3 sy3 a3 W3 hp hk3 hs3 hlv3 hkp3=> ?_
     cases e with
     |exit id=>exact hk3.elim
     |ret=>exact hk3.elim
     |goto l=>exact hp.elim
     |panic c=>exact hp.elim
     |outgrown=>exact hp.elim
     |normal=>
     have hkeep3:KeepsC w.heap.size W W3:=keeps_fx (H:=st2.H) (w:=w) (a:=a) hr2.cls hlv3.fx;have hl3:W3.heap[L]?=some (.loop (rec .ready none)):=hkeep3.same L _ (by omega) hl rfl;have hk3':W3.heap[w.heap.size]?=some (.deferred (some [])):=hkeep3.same _ _ (Nat.le_refl _) hk rfl;have hlt3:L<W3.heap.size:=(Array.getElem?_eq_some_iff.1 hl3).1;obtain⟨W2,hW2⟩:∃W2,W2=W3.putObj L (.loop { rec .ready none with state:= .busy}):=⟨_,rfl⟩
     have hg2:W3.grownBy W2 (some L):=by rw [hW2];exact grownBy_putObj' W3 L _
     have hl2:W2.heap[L]?=some (.loop { rec .ready none with state:= .busy}):=by rw [hW2];exact World.putObj_heap_same hlt3
     have hk2:W2.heap[w.heap.size]?=some (.deferred (some [])):=by rw [hW2];exact(World.putObj_heap_other (by omega)).trans hk3'
     obtain⟨hs4,hr4⟩:=Sx.turn hs3 hlv3.rel hg2 (by intro r e;cases e;exact⟨by omega,_,hl3,rfl⟩);refine⟨W2,by rw [hW2];exact run_beginRound hl3 (by rw [hrec]), ?_⟩
     have hO3:∀b,b∈bs st3.H→O b∨W.heap.size≤b:=fun b hb=>by
      rcases hlv3.bs b hb with h|h
      · exact .inl (hO1 b (e2▸h))
      · exact .inr h
     have hb3:∀b,b∈bs st3.H→b∈bs st.H∨w.heap.size≤b:=fun b hb=>by
      rcases hlv3.bs b hb with h|h
      · exact hb1 b (e2▸h)
      · exact .inr (Nat.le_trans hf1.size h)
     have hfx3:Fx (bs st.H) w W3:=Fx.trans hf1 hlv3.fx (fun _ h=>h) fun i hi=>hb1 i (e2▸hi)
     have hfx2:Fx (bs st.H) w W2:=⟨hg2.os.trans hfx3.os,hg2.tape.trans hfx3.tape,hg2.output.trans hfx3.output,Nat.le_trans hfx3.size hg2.size,fun i hi hn=>by
      rw [hg2.block i (Nat.lt_of_lt_of_le hi hfx3.size) (by simp;omega)];exact hfx3.block i hi hn⟩
     refine codeY_okIn (X:=X0) L _ fz hA0 hP0 body hbk _ sy3 a a3 W2 _ _ hkp3 hk3 hs4 hr4 fun e st4 sy4 a4 W4 hp hk hs4 hl4 hkp4=> ?_
     have hkeep:KeepsC w.heap.size W2 W4:=keeps_fx (H:=st3.H) (w:=w) (a:=a) hr4.cls hl4.fx;have hfx4:Fx (bs st.H) w W4:=Fx.trans hfx2 hl4.fx (fun _ h=>h) fun i hi=>hb3 i hi
     have hbs4:∀b,b∈bs st4.H→b∈bs st.H∨w.heap.size≤b:=fun b hb=>by
      rcases hl4.bs b hb with h|h
      · exact hb3 b h
      · exact .inr (Nat.le_trans hfx2.size h)
     have hl4':W4.heap[L]?=some (.loop { rec .ready none with state:= .busy}):=hkeep.same L _ (by omega) hl2 rfl
     have hk4':W4.heap[w.heap.size]?=some (.deferred (some [])):=hkeep.same _ _ (Nat.le_refl _) hk2 rfl;have hlt4:L<W4.heap.size:=(Array.getElem?_eq_some_iff.1 hl4').1;obtain⟨O',hO'⟩:∃O':Nat→Prop,O'=fun b=>b∈bs st4.H∨b=L∨b=w.heap.size:=⟨_,rfl⟩
     have fin:∀(jump:Option Code) {sy5:Sy},SubY sy4 sy5→(∀d x,lookY sy5.T d=some x→d∈fz)→
      (Instr.endRound L jump).run X0.P W4= .ok (.bool jump.isNone) (W4.putObj L (.loop (rec (if jump.isNone then .ready else .done) jump)))∧
      (W4.putObj L (.loop (rec (if jump.isNone then .ready else .done) jump))).heap[L]?=some (.loop (rec (if jump.isNone then .ready else .done) jump))∧
      (W4.putObj L (.loop (rec (if jump.isNone then .ready else .done) jump))).heap[w.heap.size]?=some (.deferred (some []))∧J0 sy5 O' (W4.putObj L (.loop (rec (if jump.isNone then .ready else .done) jump))):=by
      intro jump sy5 hsub hdm;have hrun:=run_endRound (P:=X0.P) jump hl4';obtain⟨st5,g1,g2,g3⟩:=hsub.rel hA0 hs4 hl4.rel;obtain⟨st6,i1,i2,i3⟩:=toMid [] g1 g2 hkp4 hdm hfx4 fun b hb=>hbs4 b (g3 b hb)
      refine⟨by rw [hrec]at hrun⊢;exact hrun,World.putObj_heap_same hlt4,(World.putObj_heap_other (by omega)).trans hk4', ?_⟩;refine J0turn (W:=W4) (row:=some L) ?_ (grownBy_putObj' W4 L _) (by intro r e;cases e;exact⟨by omega,_,hl4',rfl⟩);rw [hJ0];refine⟨st6,i1,by rw [hX0,ha0];exact i2,hfx4,by rw [i3];exact fun b hb=>hbs4 b (g3 b hb), ?_⟩;rw [i3,hO'];exact fun b hb=> .inl (g3 b hb)
     have hk:=hRK _ _ hk;cases e with
     |normal=>
      obtain⟨s',q1,q2⟩:=hk;obtain⟨f1,f2,f3,f4⟩:=fin none q2 (hdom s');refine⟨_,_,f1,(hXP▸giJ f4), .inl ⟨rfl,O',⟨⟨s',q1,f4⟩,by rw [hO'];exact .inr (.inl rfl),by rw [hO'];exact .inr (.inr rfl),f2,f3⟩, ?_, ?_, ?_⟩⟩
      · have h1:=hg2.size;have h2:=hkeep.size;have h3:=hkeep3.size;simp;omega
      · intro b hb;rw [hO']at hb;rcases hb with h|h|h
        · refine⟨by have:=hl4.rel.cls.lt_size h;simpa using this, ?_⟩
          rcases hl4.bs b h with h|h
          · exact hO3 b h
          · exact .inr (Nat.le_trans hkeep3.size (Nat.le_trans hg2.size h))
        · subst h;exact⟨by simpa using hlt4, .inl hOL⟩
        · subst h;exact⟨by simp;omega, .inl hOD⟩
      · intro b hb hn;have hne:b≠L:=fun e=>hn (e▸hOL)
        rw [World.putObj_heap_other hne];have hb3':b<W3.heap.size:=Nat.lt_of_lt_of_le hb hkeep3.size
        rw [hl4.fx.block b (Nat.lt_of_lt_of_le hb3' hg2.size) fun c hc e=>by
         rcases hO3 c hc with h|h
         · exact hn (e▸h)
         · omega]
        rw [hg2.block b hb3' (by simpa using hne)]
        exact hlv3.fx.block b hb fun c hc e=>hn (e▸hO1 c (e2▸hc))
     |ret=>
      obtain⟨s',q1,q2⟩:=hk;obtain⟨f1,f2,f3,f4⟩:=fin (some .ret) q2 (hdomx _ s');exact⟨_,_,f1,(hXP▸giJ f4), .inr ⟨rfl, .ret,s',O', .inl rfl,q1,f4,f2,f3⟩⟩
     |exit id=>
      obtain⟨s',q1,q2⟩:=hk;obtain⟨f1,f2,f3,f4⟩:=fin (some (.exit id)) q2 (hdomx _ s');exact⟨_,_,f1,(hXP▸giJ f4), .inr ⟨rfl, .exit id,s',O', .inr ⟨id,rfl⟩,q1,f4,f2,f3⟩⟩
     |goto l=>exact hp.elim
     |panic c=>exact hp.elim
     |outgrown=>exact hp.elim
   · rintro e W2 ⟨⟨v,rfl⟩,(⟨O,⟨s,hR,hm⟩,hOL,hOD,hl,hk⟩|⟨pre,hpre,e,s,O,he,hRX,hm,hl,hk⟩)⟩
     · refine⟨none,_,by have:=run_endLoop (P:=X.P) hl (by rw [hrec];simp);rw [hrec]at this;exact this, ?_⟩;exact hdone _ s _ (Nat.le_refl _) ((World.putObj_heap_other (by omega)).trans hk) hR (toEnd _ (J0turn hm (grownBy_putObj' W2 L _) (by intro r e;cases e;exact⟨by omega,_,hl,rfl⟩)) (hdom s))
     · refine⟨some (codeOf e),_,by have:=run_endLoop (P:=X.P) hl (by rw [hrec];simp);rw [hrec]at this;exact this, ?_⟩;rcases he with rfl|⟨id,rfl⟩
       · refine wpIn_ret ?_;exact hstop _ .ret pre s _ (Nat.le_refl _) ((World.putObj_heap_other (by omega)).trans hk) hpre hRX (.inl rfl) (toEnd _ (J0turn hm (grownBy_putObj' W2 L _) (by intro r e;cases e;exact⟨by omega,_,hl,rfl⟩)) (hdomx _ s))
       · refine wpIn_exit ?_;exact hstop _ (.exit id) pre s _ (Nat.le_refl _) ((World.putObj_heap_other (by omega)).trans hk) hpre hRX (.inr ⟨id,rfl⟩) (toEnd _ (J0turn hm (grownBy_putObj' W2 L _) (by intro r e;cases e;exact⟨by omega,_,hl,rfl⟩)) (hdomx _ s))
end
structure RangeY (X:Cy) (g:Operand) (ps:Array Tmp) (assign body:Code) (st:Sy) (K:Exit→Sy→Prop):Prop where
 ex:∃(gf:FuncId) (caps:List D) (xs:List (List D)) (fz:List Nat) (σ:Type) (f:σ→Sy) (fx:Exit→σ→Sy) (R:List (List D)→σ→Prop) (RX:Exit→List (List D)→σ→Prop) (s0:σ),
  evY st g=some (.fn gf [] caps)∧cleanL caps=true∧DoesIt X.P gf caps xs∧(∀args w,(callFunc gf args).run X.P w= .ok (.enter gf args) w)∧(∀x,x∈xs→x.length=ps.size)∧roundOK fz assign=true∧roundOK fz body=true∧freeOf fz ps.toList=true∧
  SubY st (f s0)∧R [] s0∧(∀s d x,lookY (f s).T d=some x→d∈fz)∧(∀e s d x,lookY (fx e s).T d=some x→d∈fz)∧
  (∀(pre:List (List D)) (s:σ) (x:List D),pre++ [x]<+:xs→R pre s→∃RK:Exit→Sy→Prop,(∀e sy,RK e sy→RoundK f fx R RX (pre++ [x]) e sy)∧bindY { X with dfs:= []} ps.toList x (f s) fun st1=>codeY { X with dfs:= []} assign st1 (behindY { X with dfs:= []} body RK))∧
  (∀s,R xs s→K .normal (f s))∧(∀e pre s,pre<+:xs→RX e pre s→(e= .ret∨∃id,e= .exit id)→K e (fx e s))
def codeR (X:Cy):Code→Sy→(Exit→Sy→Prop)→Prop
 | .seq a b,st,K=>codeR X a st fun e st'=>match e with
  | .normal=>codeR X b st' K
  |e=>K e st'
 | .block id c,st,K=>codeR X c st fun e st'=>match e with
  | .exit j=>(match Nat.beq j id with|true=>K .normal st'|false=>K (.exit j) st')
  |e=>K e st'
 | .cond c t e,st,K=>match evY st c with
  |some (.v (.bool b))=>VIf b (codeR X t st K) (codeR X e st K)
  |_=>False
 | .scope c,st,K=>codeR X c st K
 | .rangeFunc g ps assign body,st,K=>RangeY X g ps assign body st K
 |c,st,K=>∀ds,codeY { X with dfs:=ds} c st K
def Marks (ds ds':List Deferred) (w w':World):Prop:=∃l:List Nat,ds'=l.map markD++ds∧l.Nodup∧∀D,D∈l→w.heap.size≤D∧w'.heap[D]?=some (.deferred (some []))
theorem Marks.refl (ds:List Deferred) (w w':World):Marks ds ds w w':=⟨[],rfl,by simp,by simp⟩
section
variable {A : Nat → Prop} {X : Cy} {w0 : World} {bor : List Nat}
theorem not_own {H:Hp} {nk:Nat} {ws w:World} {D:Nat} {o:Obj} (hc:Cls (cx X w0 bor) H nk ws w) (hD:w.heap[D]?=some o) (ho:ctlO o=true):∀b,b∈bs H→b≠D:=by
 intro b hb e;subst e;obtain⟨j,e,he,hbe⟩:=bs_mem.1 hb;obtain⟨q,hcl,hq⟩:=entAt_cells (hc.own j e he) hbe;rw [hcl]at hD;cases hD;rw [hq]at ho;cases ho
theorem Marks.trans {X1:Cy} {ds ds1 ds2:List Deferred} {H:Hp} {nk:Nat} {ws w w1 w2:World} (h:Marks ds ds1 w w1) (k:Marks ds1 ds2 w1 w2) (hc:Cls (cx X1 w0 bor) H nk ws w1) (hf:Fx (bs H) w1 w2) (hw:w.heap.size≤w1.heap.size):Marks ds ds2 w w2:=by
 obtain⟨l,rfl,hn,hl⟩:=h;obtain⟨r,rfl,hm,hr⟩:=k;have hlt:∀D,D∈l→D<w1.heap.size:=fun D hD=>(Array.getElem?_eq_some_iff.1 (hl D hD).2).1
 refine⟨r++l,by simp, ?_,fun D hD=> ?_⟩
 · rw [List.nodup_append];refine⟨hm,hn,fun x hx y hy e=> ?_⟩;subst e;have:=(hr x hx).1;have:=hlt x hy;omega
 · rcases List.mem_append.1 hD with h|h
   · exact⟨Nat.le_trans hw (hr D h).1,(hr D h).2⟩
   · refine⟨(hl D h).1, ?_⟩;rw [hf.block D (hlt D h) (not_own hc (hl D h).2 rfl)];exact(hl D h).2
theorem Lv.hop {X1 X2:Cx} {H:Hp} {w w1 w2:World} {st1 st2:St} {a1 a2:Act} (h:Lv X1 H w st1 a1 w1) (k:Lv X2 st1.H w1 st2 a2 w2):Lv X2 H w st2 a2 w2:=
 ⟨k.rel,Fx.trans h.fx k.fx (fun _ h=>h) fun i hi=>h.bs i hi,fun b hb=>by
  rcases k.bs b hb with h1|h1
  · exact h.bs b h1
  · exact .inr (Nat.le_trans h.fx.size h1)⟩
theorem codeR_ok (hA:AG A X.P w0 bor) (hP:POK X.P X.tt) (c:Code):∀(st:St) (sy:Sy) (a:Act) (w:World) (ds:List Deferred) (K:Exit→Sy→Prop) (Q:Exit→Act→World→Prop),codeR X c sy K→Sim A st sy→Rel (cx { X with dfs:=ds} w0 bor) st a w→
 (∀e st' sy' a' w' ds',plain e→K e sy'→Sim A st' sy'→Lv (cx { X with dfs:=ds'} w0 bor) st.H w st' a' w'→Marks ds ds' w w'→Q e a' w')→c.wp X.P Q a w:=by
 have plainC:∀(c:Code) (st:St) (sy:Sy) (a:Act) (w:World) (ds:List Deferred) (K:Exit→Sy→Prop) (Q:Exit→Act→World→Prop),(∀ds,codeY { X with dfs:=ds} c sy K)→Sim A st sy→Rel (cx { X with dfs:=ds} w0 bor) st a w→
  (∀e st' sy' a' w' ds',plain e→K e sy'→Sim A st' sy'→Lv (cx { X with dfs:=ds'} w0 bor) st.H w st' a' w'→Marks ds ds' w w'→Q e a' w')→c.wp X.P Q a w:=
  fun c st sy a w ds K Q h hs hr hQ=>codeY_ok (X:= { X with dfs:=ds}) hA hP c st sy a w K Q (h ds) hs hr fun e st' sy' a' w' hp hk hs' hl=>hQ e st' sy' a' w' ds hp hk hs' hl (Marks.refl _ _ _)
 induction c with
 |seq x y ihx ihy=>
  intro st sy a w ds K Q h hs hr hQ;refine wp_seq (ihx st sy a w ds _ _ h hs hr fun e st1 sy1 a1 w1 ds1 hp hk hs1 hl hm=> ?_);cases e with
  |normal=>exact ihy st1 sy1 a1 w1 ds1 K Q hk hs1 hl.rel fun e st2 sy2 a2 w2 ds2 hp hk2 hs2 hl2 hm2=>hQ e st2 sy2 a2 w2 ds2 hp hk2 hs2 (Lv.hop hl hl2) (hm.trans hm2 hl.rel.cls hl2.fx hl.fx.size)
  |exit id=>exact hQ _ _ _ _ _ _ hp hk hs1 hl hm
  |ret=>exact hQ _ _ _ _ _ _ hp hk hs1 hl hm
  |goto l=>exact hp.elim
  |panic c=>exact hp.elim
  |outgrown=>exact hp.elim
 |block id c ih=>
  intro st sy a w ds K Q h hs hr hQ;refine wp_block (ih st sy a w ds _ _ h hs hr fun e st1 sy1 a1 w1 ds1 hp hk hs1 hl hm=> ?_);cases e with
  |normal=>exact hQ _ _ _ _ _ _ hp hk hs1 hl hm
  |exit j=>
   simp only [Exit.inBlock];simp only at hk;split at hk
   · rename_i hb;rw [if_pos (beqT hb)];exact hQ .normal _ _ _ _ _ trivial hk hs1 hl hm
   · rename_i hb;rw [if_neg (beqF hb)];exact hQ _ _ _ _ _ _ hp hk hs1 hl hm
  |ret=>exact hQ _ _ _ _ _ _ hp hk hs1 hl hm
  |goto l=>exact hp.elim
  |panic c=>exact hp.elim
  |outgrown=>exact hp.elim
 |cond c x y ihx ihy=>
  intro st sy a w ds K Q h hs hr hQ;simp only [codeR]at h;split at h
  · rename_i b hcd;obtain⟨s,h1,h2,_⟩:=evY_sim hs hcd;have:=h2.sc;subst this;have hb:a.eval c= .bool b:=by simpa [den]using (hr.ev c _ h1).2
    cases b with
    |true=>exact wp_cond_true hb (ihx st sy a w ds K Q h hs hr hQ)
    |false=>exact wp_cond_false hb (ihy st sy a w ds K Q h hs hr hQ)
  · exact h.elim
 |scope c ih=>
  intro st sy a w ds K Q h hs hr hQ;simp only [codeR]at h;refine wp_scope_straight (ih st sy a w ds K _ h hs hr fun e st1 sy1 a1 w1 ds1 hp hk hs1 hl hm=> ?_);cases e with
  |normal=>exact hQ _ _ _ _ _ _ hp hk hs1 hl hm
  |exit j=>exact hQ _ _ _ _ _ _ hp hk hs1 hl hm
  |ret=>exact hQ _ _ _ _ _ _ hp hk hs1 hl hm
  |goto l=>exact hp.elim
  |panic c=>exact hp.elim
  |outgrown=>exact hp.elim
 |rangeFunc g ps assign body _ _=>
  intro st sy a w ds K Q h hs hr hQ;have h:RangeY X g ps assign body sy K:=h;obtain⟨gf,caps,xs,fz,σ,f,fx,R,RX,s0,hg,hcl,hit,heg,hps,hasg,hbk,hfree,hst,h0,hdom,hdomx,hround,hdone,hstop⟩:=h.ex;obtain⟨s,h1,h2,_⟩:=evY_sim hs hg;have hev:=(hr.ev g _ h1).2;have h2':=RelD.mono (ok_now hr.cls) (fun _ _ h=>h) _ _ h2;have hrep:=clean_rep (H:=st.H) _ _ h2' (by simpa [clean,cleanL]using hcl)
  simp only [Rep]at hrep;obtain⟨p,q,e1,e2,e3⟩:=hrep
  have hp0:p= #[]:=by
   cases hp:p.toList with
   |nil=>exact Array.toList_inj.1 (by simp [hp])
   |cons v l=>rw [hp]at e2;simp [RepL]at e2
  refine range_ok (X:= { X with dfs:=ds}) hA hP hs hr (vl:=q.toList) (by rw [hev,e1,hp0]) e3 hit heg hps hasg hbk hfree f fx R RX s0 hst h0 hdom hdomx hround (fun D s W hD hdef hR hm=> ?_) fun D e pre s W hD hdef hpre hRX he hm=> ?_
  · obtain⟨st1,g1,g2,g3,g4⟩:=hm.ex;exact hQ .normal st1 _ _ W _ trivial (hdone s hR) g1 ⟨g2,g3,g4⟩ ⟨[D],rfl,by simp,by simpa using ⟨hD,hdef⟩⟩
  · obtain⟨st1,g1,g2,g3,g4⟩:=hm.ex;exact hQ e st1 _ _ W _ (by rcases he with rfl|⟨id,rfl⟩<;>trivial) (hstop e pre s hpre hRX he) g1 ⟨g2,g3,g4⟩ ⟨[D],rfl,by simp,by simpa using ⟨hD,hdef⟩⟩
 |_=>exact plainC _
end
theorem resY_dfs {X:Cy} {ds:List Deferred} {st:Sy}:∀rs:List ResultVar,resY { X with dfs:=ds} st rs=resY X st rs
 | []=>rfl
 | .tmp t::r=>by simp only [resY,resY_dfs r]
 | .cell a t::r=>by simp only [resY,resY_dfs r]
section
variable {A : Nat → Prop} {X : Cy} {w0 : World} {bor : List Nat} {sy : Sy} {a : Act}
theorem ret_marks (hA:AG A X.P w0 bor) (hP:POK X.P X.tt) {fn:Func} {Qr:D→Prop} {Rr:Ending→World→Prop} {n:Nat} {ds:List Deferred}
 (hk:match resY X sy fn.results.toList with
  |some [s]=>retOf sy s Qr
  |some l=>retOf sy (.tup l) Qr
  |none=>False)
 (hR:∀v r w',Qr r→Rep (fun b=>A b∧b<w'.heap.size) w' r v→Fx bor w0 w'→Rr (.returned v) w'):∀(l:List Nat) (st:St) (W:World),Sim A st sy→Rel (cx { X with dfs:=ds} w0 bor) st a W→l.Nodup→(∀D,D∈l→w0.heap.size≤D∧W.heap[D]?=some (.deferred (some [])))→
 LeavesInM Fence.wide n X.P fn a.tmps Rr (l.map markD) .returning W
 | [],st,W,hs,hr,_,_=>by
  have main:∀ {r:D} {s:SV},retOf sy r Qr→RelD (okS A st) st.w (keyS st) r s→(results fn a.tmps).run X.P W= .ok (den st.H s) W→∃v,(results fn a.tmps).run X.P W= .ok v W∧Rr (.returned v) W:=by
   intro r s hret hrel hrun;obtain⟨r',hq,hrp⟩:=retOf_ok (X:= { X with dfs:=ds}) hA hret hs hr hrel
   exact⟨_,hrun,hR _ _ _ hq hrp hr.cls.fx0⟩
  show∃v,(results fn a.tmps).run X.P W= .ok v W∧Rr (.returned v) W;cases hres:resY X sy fn.results.toList with
  |none=>rw [hres]at hk;exact hk.elim
  |some l=>
   rw [hres]at hk;rw [←resY_dfs (ds:=ds)]at hres;obtain⟨l',h1,h2⟩:=resY_sim (X:= { X with dfs:=ds}) (w0:=w0) (bor:=bor) hs hres
   have hrun:=results_ok (X:=cx { X with dfs:=ds} w0 bor) hP.tt hr h1
   match l,l',h2,hk,hrun with
   | [s], [s'],h2,hk,hrun=>exact main hk h2.1 hrun
   | [], [],h2,hk,hrun=>exact main (s:= .tup []) hk (by simp only [RelD];exact .inl ⟨[],rfl,trivial⟩) (by simpa [den,retV,cx]using hrun)
   |x::y::l,x'::y'::l',h2,hk,hrun=>exact main (s:= .tup (x'::y'::l')) hk (by simp only [RelD];exact .inl ⟨_,rfl,h2⟩) (by simpa [den,retV,cx]using hrun)
   | [],_::_,h2,_,_=>simp [RelDL]at h2
   | [_], [],h2,_,_=>simp [RelDL]at h2
   | [_],_::_::_,h2,_,_=>simp [RelDL]at h2
   |_::_::_, [],h2,_,_=>simp [RelDL]at h2
   |_::_::_, [_],h2,_,_=>simp [RelDL]at h2
 |D::l,st,W,hs,hr,hn,hl=>by
  obtain⟨h1,h2⟩:=hl D List.mem_cons_self;rw [List.nodup_cons]at hn;refine⟨by simp, .inl ⟨D,_,rfl,run_takeDeferred h2, ?_⟩⟩;obtain⟨g1,g2⟩:=turn hs hr (grownBy_putObj' W D (.deferred none)) fun r e=>by cases e;exact⟨h1,_,h2,rfl⟩
  refine ret_marks hA hP hk hR l _ _ g1 g2 hn.2 fun D' hD'=>⟨(hl D' (List.mem_cons_of_mem _ hD')).1, ?_⟩
  have hne:D'≠D:=fun e=>hn.1 (by rw [←e];exact hD')
  rw [World.putObj_heap_other (by first|exact hne|exact hne.symm)]
  exact(hl D' (List.mem_cons_of_mem _ hD')).2
end
theorem does_r {X:Cy} (hP:POK X.P X.tt) {f:FuncId} {fn:Func} {c:Code} (args:List D) {Qr:D→Prop} (hf:X.P.funcs[f]?=some fn) (hb:fn.body=some c) (hn:X.nt=fn.ntmps) (hl:args.length≤fn.ntmps)
 (h:codeR X c ⟨zipY 0 args, [],0⟩ (retY X fn.results.toList Qr)) (hg:fn.ntmps≤gbase:=by exact Nat.le_of_ble_eq_true rfl):Does X.P f args Qr:=by
 intro ok w vl hrep hok hgi;have hA:=AG.nil ok hgi;refine(callsIn_wide (n:=2)).1 (callsIn_of_wp_marks hf hb trivial (wpIn_wide.2 (codeR_ok (A:=fun b=>b<w.heap.size→ok b) (w0:=w) (bor:= []) hA hP c ⟨zipT 0 (vs vl), [],0,w,w.heap.size, []⟩ ⟨zipY 0 args, [],0⟩ _ _ [] _ _ h ?_ ?_ fun e st' sy' a' w' ds' hp hk hs' hlv hm=> ?_)) rfl)
 · refine⟨fun d x hx=> ?_,fun k e he=>by simp [findY]at he,rfl,fun j _=>freshT_zip,fun _ _=>rfl⟩;obtain⟨_,h2⟩:=zipY_look hx;obtain⟨y,h3,h4⟩:=hrep.get h2;right;refine⟨.v y,look_zip (Nat.zero_le _) ?_,Rep.rel _ _ (Rep.mono (fun b hb=>⟨⟨⟨.inl (hok b hb),fun _=>hb⟩,hok b hb,fun c hc=>by simp [bs]at hc⟩,rfl⟩) _ _ h4)⟩;rw [vs_get,h3];rfl
 · refine⟨by simp [cx,hn,←hrep.length];omega,fun d s hs=> ?_,rfl,Cls.nil (cx { X with dfs:= []} w []) 0,Nat.le_refl _,by simp⟩
   obtain⟨_,h2⟩:=zipT_look (n:=0) hs;simp only [Nat.sub_zero]at h2;rw [vs_get]at h2;cases hv:vl[d]? with
   |none=>rw [hv]at h2;cases h2
   |some y=>
    rw [hv]at h2;cases h2;right;have hlt:=(List.getElem?_eq_some_iff.1 hv).1;rw [slotv,if_pos (by have:=hrep.length;omega),Array.getElem?_append_left (by simpa using hlt)]
    simpa [den]using hv
 · obtain⟨l,rfl,hnd,hD⟩:=hm
   have fin:(match resY X sy' fn.results.toList with
    |some [s]=>retOf sy' s Qr
    |some l=>retOf sy' (.tup l) Qr
    |none=>False)→LeavesInM Fence.wide 2 X.P fn a'.tmps (fun e w'=>∃v r,e= .returned v∧Qr r∧Rep (fun b=>ok b∨(w.heap.size≤b∧b<w'.heap.size)) w' r v∧Below w.heap.size w w') a'.defers .returning w':=by
    intro hk;rw [show a'.defers=l.map markD from by rw [show a'.defers=_ from hlv.rel.dfs];simp [cx]];refine ret_marks hA hP hk (fun v r w' hq hrp hfx=>⟨v,r,rfl,hq,Rep.mono (fun b hb=>⟨?_,rfl⟩) _ _ hrp,hfx.below⟩) l st' w' hs' hlv.rel hnd hD;by_cases hlt:b<w.heap.size
    · exact .inl (hb.1 hlt)
    · exact .inr ⟨by omega,hb.2⟩
   cases e with
   |normal=>exact fin hk
   |ret=>exact fin hk
   |exit id=>exact hk.elim
   |goto l=>exact hp.elim
   |panic c=>exact hp.elim
   |outgrown=>exact hp.elim
def waits (ops:Array Oper) (m i:Nat):Bool:=match ops[m]? with
 |some o=>o.after.toList.any fun e=>Region.binds .any e&&Nat.beq e.on i
 |none=>false
def backOK (ops:Array Oper):Bool:=(List.range ops.size).all fun m=>match ops[m]? with
 |some o=>o.after.toList.all fun e=> !Region.binds .any e||Nat.blt e.on m
 |none=>true
def preOK (ops:Array Oper) (j:Nat):Bool:=(List.range j).all fun i=>(List.range (j+1)).any fun m=>Nat.blt i m&&waits ops m i
def postOK (ops:Array Oper) (j:Nat):Bool:=(List.range ops.size).all fun k=>Nat.ble k j||waits ops k (k-1)
def guardOK (ops:Array Oper) (j:Nat):Bool:=(List.range j).all fun i=>match ops[i]? with
 |some o=>match o.guard with|some (g,_)=>Nat.blt g j|none=>true
 |none=>true
def chainOK (ops:Array Oper) (j:Nat):Bool:=backOK ops&&(preOK ops j&&(postOK ops j&&(guardOK ops j&&Nat.blt j ops.size)))
theorem waits_iff {ops:Array Oper} {m i:Nat}:waits ops m i=true↔∃o e,ops[m]?=some o∧e∈o.after.toList∧Region.binds .any e=true∧e.on=i:=by
 unfold waits;constructor
 · intro h;split at h
   · rename_i o ho;obtain⟨e,h1,h2⟩:=List.any_eq_true.1 h;simp only [Bool.and_eq_true]at h2;exact⟨o,e,ho,h1,h2.1,beqT h2.2⟩
   · cases h
 · rintro⟨o,e,ho,h1,h2,h3⟩;rw [ho];exact List.any_eq_true.2 ⟨e,h1,by simp [h2,h3]⟩
theorem waits_lt {ops:Array Oper} (h:backOK ops=true) {m i:Nat} (hb:waits ops m i=true):i<m∧m<ops.size:=by
 obtain⟨o,e,ho,h1,h2,h3⟩:=waits_iff.1 hb;have hm:m<ops.size:=(Array.getElem?_eq_some_iff.1 ho).1;have h4:=List.all_eq_true.1 h m (List.mem_range.2 hm);rw [ho]at h4;have h5:=List.all_eq_true.1 h4 e h1;simp [h2]at h5;exact⟨by omega,hm⟩
theorem rdy_iff {ops:Array Oper} {listed:Array Bool} (hsz:listed.size=ops.size) {i:Nat}:i∈Region.ready .any ops listed↔i<ops.size∧listed[i]?=some false∧∀k,waits ops i k=true→listed[k]?=some true:=by
 unfold Region.ready;rw [List.mem_filter,List.mem_range];constructor
 · rintro⟨h1,h2⟩;simp only [Bool.and_eq_true]at h2;have hl:i<listed.size:=by omega
   refine⟨h1,by simpa [Array.getD,hl]using h2.1,fun k hk=> ?_⟩
   obtain⟨o,e,ho,g1,g2,g3⟩:=waits_iff.1 hk;rw [ho]at h2;have:=h2.2;simp only [Option.map_some,Option.getD_some]at this;rw [←Array.all_toList]at this;have:=List.all_eq_true.1 this e g1;simp only [g2,Bool.not_true,Bool.false_or,g3]at this;by_cases hkl:k<listed.size
   · simpa [Array.getD,hkl]using this
   · simp [Array.getD,hkl]at this
 · rintro⟨h1,h2,h3⟩;refine⟨h1, ?_⟩;have hl:i<listed.size:=by omega
   rw [Array.getElem?_eq_getElem hl]at h2;simp only [Bool.and_eq_true];refine⟨by simp [Array.getD,hl];simpa using h2, ?_⟩
   rw [Array.getElem?_eq_getElem h1];simp only [Option.map_some,Option.getD_some];rw [←Array.all_toList];refine List.all_eq_true.2 fun e he=> ?_
   cases hb:Region.binds .any e with
   |false=>rfl
   |true=>
    have:=h3 e.on (waits_iff.2 ⟨_,e,Array.getElem?_eq_getElem h1,he,hb,rfl⟩);obtain⟨hk,hv⟩:=Array.getElem?_eq_some_iff.1 this;simp [Array.getD,hk,hv]
def Down (ops:Array Oper) (listed:Array Bool):Prop:=∀m i,listed[m]?=some true→waits ops m i=true→listed[i]?=some true
theorem Down.set {ops:Array Oper} {listed:Array Bool} (hsz:listed.size=ops.size) (h:Down ops listed) {i:Nat} (hi:i∈Region.ready .any ops listed):Down ops (listed.setIfInBounds i true):=by
 obtain⟨h1,_,h3⟩:=(rdy_iff hsz).1 hi;intro m k hm hk;by_cases hki:i=k
 · subst hki;simp [Array.getElem?_setIfInBounds_self,hsz,h1]
 · rw [Array.getElem?_setIfInBounds_ne hki];by_cases hmi:i=m
   · subst hmi;exact h3 k hk
   · rw [Array.getElem?_setIfInBounds_ne hmi]at hm;exact h m k hm hk
theorem rdy_nil {ops:Array Oper} (hb:backOK ops=true) {listed:Array Bool} (hsz:listed.size=ops.size) (h:Region.ready .any ops listed= []):∀i,i<ops.size→listed[i]?=some true:=by
 intro i
 induction i using Nat.strongRecOn with
 |ind i ih=>
  intro hi;have hl:i<listed.size:=by omega
  rw [Array.getElem?_eq_getElem hl];cases hv:listed[i]with
  |true=>rfl
  |false=>
   exfalso
   have:i∈Region.ready .any ops listed:=(rdy_iff hsz).2 ⟨hi,by rw [Array.getElem?_eq_getElem hl,hv],fun k hk=>by
    obtain⟨hlt,_⟩:=waits_lt hb hk;exact ih k hlt (by omega)⟩
   rw [h]at this;cases this
section
variable {P : Program} {n : Nat} {ops : Array Oper} {Q : Exit → Act → World → Prop}
theorem any_tail (hb:backOK ops=true) {j:Nat} (hp:postOK ops j=true):∀(r m fuel:Nat) (listed:Array Bool) (a:Act) (w:World),m+r=ops.size→j<m→listed.size=ops.size→(∀i,i<m→listed[i]?=some true)→(∀i,m≤i→i<ops.size→listed[i]?=some false)→r≤fuel→
 wpListIn Fence.wide n P ops Q (ops.toList.drop m) a w→wpAnyIn Fence.wide n P .any ops Q fuel listed a w
 |0,m,fuel,listed,a,w,hm,hj,hsz,h1,h2,hf,h=>by
  have hnil:Region.ready .any ops listed= []:=List.eq_nil_iff_forall_not_mem.2 fun i hi=>by
   obtain⟨g1,g2,_⟩:=(rdy_iff hsz).1 hi;rw [h1 i (by omega)]at g2;cases g2
  rw [List.drop_of_length_le (by simp;omega)]at h;cases fuel with
  |zero=>exact⟨hnil,h⟩
  |succ fuel=>exact⟨fun _=>h,fun i hi=>by rw [hnil]at hi;cases hi⟩
 |r+1,m,0,listed,a,w,hm,hj,hsz,h1,h2,hf,h=>by omega
 |r+1,m,fuel+1,listed,a,w,hm,hj,hsz,h1,h2,hf,h=>by
  have hlt:m<ops.size:=by omega
  have hrd:∀i,i∈Region.ready .any ops listed→i=m:=by
   intro i hi;obtain⟨g1,g2,g3⟩:=(rdy_iff hsz).1 hi;rcases Nat.lt_trichotomy i m with h|h|h
   · rw [h1 i h]at g2;cases g2
   · exact h
   · exfalso;have hk:=List.all_eq_true.1 hp i (List.mem_range.2 g1);have hnb:Nat.ble i j=false:=by cases hx:Nat.ble i j with|false=>rfl|true=>have:=Nat.le_of_ble_eq_true hx;omega
     rw [hnb,Bool.false_or]at hk;have:=g3 _ hk;rw [h2 (i-1) (by omega) (by omega)]at this;cases this
  refine⟨fun hnil=> ?_,fun i hi=> ?_⟩
  · have:=rdy_nil hb hsz hnil m hlt;rw [h2 m (Nat.le_refl _) hlt]at this;cases this
  · obtain rfl:=hrd i hi
    have hd:ops.toList.drop i=ops[i]::ops.toList.drop (i+1):=by
     rw [List.drop_eq_getElem_cons (by simpa using hlt)];simp
    rw [hd]at h;simp only [wpListIn]at h;unfold wpOpIn;rw [Array.getElem?_eq_getElem hlt];simp only
    have goOn:∀a w,wpListIn Fence.wide n P ops Q (ops.toList.drop (i+1)) a w→wpAnyIn Fence.wide n P .any ops Q fuel (listed.setIfInBounds i true) a w:=by
     intro a w h;refine any_tail hb hp r (i+1) fuel _ a w (by omega) (by omega) (by simpa using hsz) (fun k hk=> ?_) (fun k hk hk2=> ?_) (by omega) h
     · by_cases e:i=k
       · subst e;simp [Array.getElem?_setIfInBounds_self,hsz,hlt]
       · rw [Array.getElem?_setIfInBounds_ne e];exact h1 k (by omega)
     · rw [Array.getElem?_setIfInBounds_ne (by omega)];exact h2 k (by omega) hk2
    split at h
    · rename_i hw;rw [if_pos hw];exact Oper.wpIn_mono goOn h
    · rename_i hw;rw [if_neg hw];exact⟨h.1,goOn _ _ h.2⟩
theorem any_cut {j:Nat} (hc:chainOK ops j=true) {K:Act→World→Prop} (hK:∀a w,K a w→wpListIn Fence.wide n P ops Q (ops.toList.drop j) a w):
 ∀(fuel fuel2:Nat) (ls listed:Array Bool) (a:Act) (w:World),ls.size=j→listed.size=ops.size→(∀i,i<j→listed[i]?=ls[i]?)→(∀i,j≤i→i<ops.size→listed[i]?=some false)→Down ops listed→fuel+(ops.size-j)≤fuel2→
 wpAnyIn Fence.wide n P .any (ops.extract 0 j) (fun e a w=>e= .normal∧K a w) fuel ls a w→wpAnyIn Fence.wide n P .any ops Q fuel2 listed a w:=by
 simp only [chainOK,Bool.and_eq_true]at hc;obtain⟨hb,hpre,hpost,hgd,hjs⟩:=hc;have hjs:j<ops.size:=Nat.blt_eq.mp hjs|>fun h=>h
 have hget:∀i,i<j→(ops.extract 0 j)[i]?=ops[i]?:=fun i hi=>by
  rw [Array.getElem?_extract];simp;omega
 have hwt:∀i k,i<j→waits (ops.extract 0 j) i k=waits ops i k:=fun i k hi=>by unfold waits;rw [hget i hi]
 have hsz':(ops.extract 0 j).size=j:=by simp;omega
 --when j is ready,all ahead of it are listed
 have hall:∀(listed:Array Bool),listed.size=ops.size→Down ops listed→((∀k,waits ops j k=true→listed[k]?=some true))→∀i,i<j→listed[i]?=some true:=by
  intro listed hsz hd hr i
  induction hr':j-i using Nat.strongRecOn generalizing i with
  |ind r ih=>
   intro hi;have hx:=List.all_eq_true.1 hpre i (List.mem_range.2 hi);obtain⟨m,hm,hy⟩:=List.any_eq_true.1 hx;simp only [Bool.and_eq_true,Nat.blt_eq,List.mem_range]at hy hm;by_cases e:m=j
   · subst e;exact hr i hy.2
   · exact hd m i (ih (j-m) (by omega) m rfl (by omega)) hy.2
 --none behind j is ready as long as j is not listed
 have hnot:∀(listed:Array Bool),listed.size=ops.size→(∀i,j≤i→i<ops.size→listed[i]?=some false)→∀i,i∈Region.ready .any ops listed→i≤j:=by
  intro listed hsz h2 i hi;obtain⟨g1,g2,g3⟩:=(rdy_iff hsz).1 hi;apply Nat.le_of_not_lt;intro hlt;have hk:=List.all_eq_true.1 hpost i (List.mem_range.2 g1);have hnb:Nat.ble i j=false:=by cases hx:Nat.ble i j with|false=>rfl|true=>have:=Nat.le_of_ble_eq_true hx;omega
  rw [hnb,Bool.false_or]at hk;have:=g3 _ hk;rw [h2 (i-1) (by omega) (by omega)]at this;cases this
 intro fuel
 induction fuel with
 |zero=>
  intro fuel2 ls listed a w hls hsz hsame hfalse hdown hf h;obtain⟨hnil,_,hk⟩:=h
  have hl:=rdy_nil (ops:=ops.extract 0 j) (by
   refine List.all_eq_true.2 fun m hm=> ?_
   rw [List.mem_range,hsz']at hm;rw [hget m hm];exact List.all_eq_true.1 hb m (List.mem_range.2 (by omega))) (by omega) hnil
  have h1:∀i,i<j→listed[i]?=some true:=fun i hi=>by rw [hsame i hi];exact hl i (by omega)
  cases fuel2 with
  |zero=>omega
  |succ fuel2=>
   refine⟨fun hn=> ?_,fun i hi=> ?_⟩
   · have:=rdy_nil hb hsz hn j hjs;rw [hfalse j (Nat.le_refl _) hjs]at this;cases this
   · have hij:=hnot listed hsz hfalse i hi;obtain⟨g1,g2,g3⟩:=(rdy_iff hsz).1 hi
     have hie:i=j:=by
      rcases Nat.lt_or_ge i j with h|h
      · rw [h1 i h]at g2;cases g2
      · omega
     subst hie;have h:=hK a w hk
     have hd:ops.toList.drop i=ops[i]::ops.toList.drop (i+1):=by
      rw [List.drop_eq_getElem_cons (by simpa using hjs)];simp
     rw [hd]at h;simp only [wpListIn]at h;unfold wpOpIn;rw [Array.getElem?_eq_getElem hjs];simp only
     have goOn:∀a w,wpListIn Fence.wide n P ops Q (ops.toList.drop (i+1)) a w→wpAnyIn Fence.wide n P .any ops Q fuel2 (listed.setIfInBounds i true) a w:=by
      intro a w h;refine any_tail hb hpost (ops.size-(i+1)) (i+1) fuel2 _ a w (by omega) (by omega) (by simpa using hsz) (fun k hk=> ?_) (fun k hk hk2=> ?_) (by omega) h
      · by_cases e:i=k
        · subst e;simp [Array.getElem?_setIfInBounds_self,hsz,hjs]
        · rw [Array.getElem?_setIfInBounds_ne e];exact h1 k (by omega)
      · rw [Array.getElem?_setIfInBounds_ne (by omega)];exact hfalse k (by omega) hk2
     split at h
     · rename_i hw;rw [if_pos hw];exact Oper.wpIn_mono goOn h
     · rename_i hw;rw [if_neg hw];exact⟨h.1,goOn _ _ h.2⟩
 |succ fuel ih=>
  intro fuel2 ls listed a w hls hsz hsame hfalse hdown hf h;obtain⟨h0,h1⟩:=h;cases fuel2 with
  |zero=>omega
  |succ fuel2=>
   refine⟨fun hn=> ?_,fun i hi=> ?_⟩
   · have:=rdy_nil hb hsz hn j hjs;rw [hfalse j (Nat.le_refl _) hjs]at this;cases this
   · have hij:=hnot listed hsz hfalse i hi;obtain⟨g1,g2,g3⟩:=(rdy_iff hsz).1 hi;rcases Nat.lt_or_ge i j with hlt|hge
     · --ahead of j
       have hi':i∈Region.ready .any (ops.extract 0 j) ls:=(rdy_iff (by omega)).2 ⟨by omega,by rw [←hsame i hlt];exact g2,fun k hk=>by
        rw [hwt i k hlt]at hk;have hkl:=(waits_lt hb hk).1;rw [←hsame k (by omega)];exact g3 k hk⟩
       have hop:=h1 i hi';unfold wpOpIn at hop⊢;rw [hget i hlt,Array.getElem?_eq_getElem g1]at hop;rw [Array.getElem?_eq_getElem g1];simp only at hop⊢
       have hyl:Region.wanted ops[i] (yielded (ops.extract 0 j) a.tmps)=Region.wanted ops[i] (yielded ops a.tmps):=by
        have hx:=List.all_eq_true.1 hgd i (List.mem_range.2 hlt);rw [Array.getElem?_eq_getElem g1]at hx;simp only at hx;unfold Region.wanted;cases hg:ops[i].guard with
        |none=>rfl
        |some p=>
         obtain⟨g,b⟩:=p;rw [hg]at hx;simp only [Nat.blt_eq]at hx;simp only [yielded,hget g hx]
       rw [hyl]at hop
       have goOn:∀a w,wpAnyIn Fence.wide n P .any (ops.extract 0 j) (fun e a w=>e= .normal∧K a w) fuel (ls.setIfInBounds i true) a w→wpAnyIn Fence.wide n P .any ops Q fuel2 (listed.setIfInBounds i true) a w:=by
        intro a w h;refine ih fuel2 _ _ a w (by simpa using hls) (by simpa using hsz) (fun k hk=> ?_) (fun k hk hk2=> ?_) (hdown.set hsz hi) (by omega) h
        · by_cases e:i=k
          · subst e;simp [Array.getElem?_setIfInBounds_self,hsz,g1,hls,hlt]
          · rw [Array.getElem?_setIfInBounds_ne e,Array.getElem?_setIfInBounds_ne e];exact hsame k hk
        · rw [Array.getElem?_setIfInBounds_ne (by omega)];exact hfalse k hk hk2
       split at hop
       · rename_i hw;rw [if_pos hw];have h2:=Oper.wpIn_mono goOn hop;unfold Oper.wpIn at h2⊢;refine⟨h2.1, ?_⟩;have h3:=h2.2;generalize (ops[i].semAt Fence.wide.round a.eval).run P w=r at*;cases r with
         |ok x w'=>
          cases x with
          |value v=>exact h3
          |skip=>exact h3
          |defer d=>exact h3
          |enter f args=>
           refine⟨h3.1,h3.2.mono fun e w'' he=> ?_⟩;cases e with
           |returned v=>exact he
           |panicked c=>obtain⟨he,_⟩:=he;cases he
           |outgrown=>obtain⟨a,w,he,_⟩:=he;cases he
          |row row args=>exact h3
          |round l f tmps assign body=>
           refine⟨h3.1,h3.2.mono fun e w'' he=> ?_⟩;cases e with
           |returned v=>exact he
           |panicked c=>obtain⟨he,_⟩:=he;cases he
           |outgrown=>obtain⟨a,w,he,_⟩:=he;cases he
          |_=>exact h3.elim
         |halt hl w'=>
          cases hl with
          |panic v=>obtain⟨he,_⟩:=h3;cases he
          |_=>exact h3.elim
       · rename_i hw;rw [if_neg hw];exact⟨hop.1,goOn _ _ hop.2⟩
     · --j itself:all ahead of it are listed
       obtain rfl:i=j:=by omega
       have hl:=hall listed hsz hdown g3
       have hnil:Region.ready .any (ops.extract 0 i) ls= []:=List.eq_nil_iff_forall_not_mem.2 fun k hk=>by
        obtain⟨k1,k2,_⟩:=(rdy_iff (by omega)).1 hk;rw [←hsame k (by omega),hl k (by omega)]at k2;cases k2
       obtain⟨_,hk⟩:=h0 hnil;have h:=hK a w hk
       have hd:ops.toList.drop i=ops[i]::ops.toList.drop (i+1):=by
        rw [List.drop_eq_getElem_cons (by simpa using hjs)];simp
       rw [hd]at h;simp only [wpListIn]at h;unfold wpOpIn;rw [Array.getElem?_eq_getElem hjs];simp only
       have goOn:∀a w,wpListIn Fence.wide n P ops Q (ops.toList.drop (i+1)) a w→wpAnyIn Fence.wide n P .any ops Q fuel2 (listed.setIfInBounds i true) a w:=by
        intro a w h;refine any_tail hb hpost (ops.size-(i+1)) (i+1) fuel2 _ a w (by omega) (by omega) (by simpa using hsz) (fun k hk=> ?_) (fun k hk hk2=> ?_) (by omega) h
        · by_cases e:i=k
          · subst e;simp [Array.getElem?_setIfInBounds_self,hsz,hjs]
          · rw [Array.getElem?_setIfInBounds_ne e];exact hl k (by omega)
        · rw [Array.getElem?_setIfInBounds_ne (by omega)];exact hfalse k (by omega) hk2
       split at h
       · rename_i hw;rw [if_pos hw];exact Oper.wpIn_mono goOn h
       · rename_i hw;rw [if_neg hw];exact⟨h.1,goOn _ _ h.2⟩
end
def pubT:List (Nat×D)→List (Nat×D)
 | []=> []
 |(d,x)::T=>(d,match clean x,Nat.blt d 1000000 with|true,true=>x|_,_=> .bad)::pubT T
def sclT:List (Nat×D)→List (Nat×D)
 | []=> []
 |(d,x)::T=>(d,match x,Nat.blt d 1000000 with| .v y,true=> .v y|_,_=> .bad)::sclT T
def isYield (st:Sy) (o:Oper):Option (List Operand):=match o.op with
 | .call c=>match c.callee with
  | .value f=>match evY st f with
   |some (.v (.func (.yield _) _ _))=>some c.args.toList
   |_=>none
  |_=>none
 |_=>none
def calleeY (st:Sy) (o:Oper):Option D:=match o.op with
 | .call c=>match c.callee with
  | .value f=>evY st f
  |_=>none
 |_=>none
abbrev Pre:=Option (List (List D))
structure YieldZ (X:Cy) (l:Nat) (xs:List (List D)) (st:Sy) (o:Oper) (args:List Operand) (p:Pre) (K:Sy→Pre→Prop):Prop where
 ex:∃pre x x',calleeY st o=some (.v (.func (.yield l) #[] #[]))∧p=some pre∧evsY st args=some x∧retOf st (.tup x) (fun y=>y= .tup x')∧pre++ [x']<+:xs∧
  putY X ⟨pubT st.T, [],st.nk⟩ o.dst (.v (.bool true)) (fun st=>K st (some (pre++ [x'])))∧putY X ⟨sclT st.T, [],st.nk⟩ o.dst (.v (.bool false)) fun st=>K st none
structure YieldY (X:Cy) (l:Nat) (xs:List (List D)) (st:Sy) (o:Oper) (args:List Operand) (p:Pre) (K:Sy→Pre→Prop):Prop where
 ex:∃ks st0,fzAll ks st []=some (st0, [])∧YieldZ X l xs st0 o args p K
def op1Y (X:Cy) (ops:List Oper) (o:Oper) (st:Sy) (K:Sy→Prop):Prop:=
 guardY ops o.guard st (fun st=>stepO X st o K) (fun st=>putY X st o.dst .und K)
theorem op1Y_eq (X:Cy) (ops:List Oper) (o:Oper) (st:Sy) (K:Sy→Prop):op1Y X ops o st K=opsY X ops [o] st K:=rfl
def opsI (X:Cy) (l:Nat) (xs:List (List D)) (ops:List Oper):List Oper→Sy→Pre→(Sy→Pre→Prop)→Prop
 | [],st,p,K=>K st p
 |o::rest,st,p,K=>match isYield st o with
  |some args=>guardY ops o.guard st (fun st=>YieldY X l xs st o args p fun st p=>opsI X l xs ops rest st p K) (fun st=>putY X st o.dst .und fun st=>opsI X l xs ops rest st p K)
  |none=>op1Y X ops o st fun st=>opsI X l xs ops rest st p K
def getJ:List (Nat×Nat)→Nat→Option Nat
 | [],_=>none
 |(i,j)::l,k=>match Nat.beq i k with|true=>some j|false=>getJ l k
structure LoopI (body:Sy→Pre→(Exit→Sy→Pre→Prop)→Prop) (st:Sy) (p:Pre) (K:Exit→Sy→Pre→Prop):Prop where
 ex:∃(α:Type) (f:α→Sy) (pf:α→List (List D)) (inv:α→Prop) (μ:α→Nat),(∃x0,SubY st (f x0)∧p=some (pf x0)∧inv x0)∧∀x,inv x→body (f x) (some (pf x)) fun e st2 p2=>match e with
  | .normal=>∃y,SubY st2 (f y)∧p2=some (pf y)∧inv y∧μ y<μ x
  |e=>K e st2 p2
def codeI (X:Cy) (l:Nat) (xs:List (List D)) (yl:List (Nat×Nat)):Code→Sy→Pre→(Exit→Sy→Pre→Prop)→Prop
 | .skip,st,p,K=>K .normal st p
 | .region id ops draw,st,p,K=>match draw with
  |false=>opsI X l xs ops.toList ops.toList st p (K .normal)
  |true=>match getP X.pl id with
   |some pl=>match getJ yl id with
    |some j=>chainOK ops j=true∧planOK X.tt X.nt (ops.toList.take j).toArray pl=true∧(match st with|⟨T,H,nk⟩=>planY X (ops.toList.take j) pl ⟨killY (ops.toList.take j) T,H,nk⟩ [] fun st=>opsI X l xs ops.toList (ops.toList.drop j) st p (K .normal))
    |none=>codeY X (.region id ops true) st fun e st=>K e st p
   |none=>False
 | .seq a b,st,p,K=>codeI X l xs yl a st p fun e st' p'=>match e with
  | .normal=>codeI X l xs yl b st' p' K
  |e=>K e st' p'
 | .cond c t e,st,p,K=>match evY st c with
  |some (.v (.bool b))=>VIf b (codeI X l xs yl t st p K) (codeI X l xs yl e st p K)
  |_=>False
 | .block id c,st,p,K=>codeI X l xs yl c st p fun e st' p'=>match e with
  | .exit j=>match Nat.beq j id with
   |true=>K .normal st' p'
   |false=>K (.exit j) st' p'
  |e=>K e st' p'
 | .loop c,st,p,K=>LoopI (codeI X l xs yl c) st p K
 | .exit id,st,p,K=>K (.exit id) st p
 | .ret,st,p,K=>K .ret st p
 | .scope c,st,p,K=>codeI X l xs yl c st p K
 | .label _,st,p,K=>K .normal st p
 |_,_,_,_=>False
theorem pubT_look {d:Nat} {x:D}:∀ {T:List (Nat×D)},lookY (pubT T) d=some x→x= .bad∨(lookY T d=some x∧clean x=true∧d<gbase)
 | [],h=>by cases h
 |(e,y)::T,h=>by
  simp only [pubT,lookY]at h⊢;split at h
  · rename_i hb;simp only [Option.some.injEq]at h;cases hc:clean y with
    |true=>
     cases hd:Nat.blt e 1000000 with
     |true=>rw [hc,hd]at h;subst h;exact .inr ⟨rfl,hc,by rw [←beqT hb];simpa [Nat.blt_eq]using hd⟩
     |false=>rw [hc,hd]at h;exact .inl h.symm
    |false=>rw [hc]at h;exact .inl h.symm
  · rename_i hb;exact pubT_look h
theorem sclT_look {d:Nat} {x:D}:∀ {T:List (Nat×D)},lookY (sclT T) d=some x→x= .bad∨(lookY (pubT T) d=some x∧∃y,x= .v y)
 | [],h=>by cases h
 |(e,y)::T,h=>by
  simp only [sclT,pubT,lookY]at h⊢;split at h
  · rename_i hb;simp only [Option.some.injEq]at h;split at h
    · rename_i v hd;subst h;exact .inr ⟨by simp [clean,hd],_,rfl⟩
    · exact .inl h.symm
  · exact sclT_look h
def valS (t:Array Value) (d:Nat):SV:=match t[d]? with|some y=> .v y|none=> .bad
def valT (t:Array Value):List (Nat×D)→List (Nat×SV)
 | []=> []
 |(d,_)::T=>(d,valS t d)::valT t T
theorem valT_look {t:Array Value} {d:Nat} {s:SV}:∀ {T:List (Nat×D)},look (valT t T) d=some s→s=valS t d
 | [],h=>by cases h
 |(e,y)::T,h=>by
  simp only [valT,look]at h;split at h
  · rename_i hb;obtain rfl:=beqT hb;exact(Option.some.inj h).symm
  · exact valT_look h
theorem valT_of {t:Array Value} {d:Nat} {x:D}:∀ {T:List (Nat×D)},lookY T d=some x→look (valT t T) d=some (valS t d)
 | [],h=>by cases h
 |(e,y)::T,h=>by
  simp only [lookY]at h;simp only [valT,look];split at h
  · rename_i hb;obtain rfl:=beqT hb;simp
  · rename_i hb;rw [hb];exact valT_of h
section
variable {X : Cy} {xs : List (List D)} {ok0 : Nat → Prop} {W0 : World} {l n : Nat} {J : List (List D) → (Nat → Prop) → World → Prop} {Jx : List (List D) → World → Prop}
def SegJ (xs:List (List D)) (W0:World) (J:List (List D)→(Nat→Prop)→World→Prop) (Jx:List (List D)→World→Prop) (ok:Nat→Prop) (w0:World):Pre→Prop
 |some pre=>W0.heap.size≤w0.heap.size∧∃O:Nat→Prop,(∀b,O b→b<w0.heap.size∧¬ok b)∧J pre O w0
 |none=>∃pre,pre<+:xs∧Jx pre w0
def Seg (X:Cy) (xs:List (List D)) (ok0:Nat→Prop) (W0:World) (J:List (List D)→(Nat→Prop)→World→Prop) (Jx:List (List D)→World→Prop) (p:Pre) (sy:Sy) (a:Act) (w:World):Prop:=
 ∃(ok:Nat→Prop) (w0:World) (st:St),(∀b,ok b→b<w0.heap.size∧(ok0 b∨W0.heap.size≤b))∧Sim (fun b=>w0.heap.size≤b∨ok b) st sy∧Rel (cx X w0 []) st a w∧GIW X.P w0∧SegJ xs W0 J Jx ok w0 p
theorem hA_of {P:Program} {ok:Nat→Prop} {w0:World} (hg:GIW P w0):AG (fun b=>w0.heap.size≤b∨ok b) P w0 []:=⟨fun b h=>(by
 rcases h with h|h
 · exact .inl h
 · cases h),hg,fun b h=>by cases h⟩
theorem seg_code (hP:POK X.P X.tt) {c:Code} {sy:Sy} {p:Pre} {a:Act} {w:World} {K:Exit→Sy→Prop} {Q:Exit→Act→World→Prop} (h:codeY X c sy K) (hs:Seg X xs ok0 W0 J Jx p sy a w)
 (hQ:∀e sy' a' w',plain e→K e sy'→Seg X xs ok0 W0 J Jx p sy' a' w'→Q e a' w'):c.wp X.P Q a w:=by
 obtain⟨ok,w0,st,h1,h3,h4,hgi,h5⟩:=hs;exact codeY_ok (hA_of hgi) hP c st sy a w K Q h h3 h4 fun e st' sy' a' w' hp hk hs' hl=>hQ e sy' a' w' hp hk ⟨ok,w0,st',h1,hs',hl.rel,hgi,h5⟩
theorem op_wide {P:Program} {o:Oper} {a:Act} {w:World} {K:Act→World→Prop} {Q Q':Exit→Act→World→Prop} (h:o.wp P a w K Q') (hno:¬LetsOut Q') (hpn:∀c a w,¬Q' (.panic c) a w):o.wpIn Fence.wide n P a w K Q:=by
 unfold Oper.wp at h;unfold Oper.wpIn;refine⟨fun _ _=>trivial, ?_⟩;rw [Fence.wide_round,Oper.semAt_none];generalize (execOp a.eval o).run P w=r at*;cases r with
 |ok x w'=>
  cases x with
  |value v=>exact h
  |skip=>exact h
  |defer d=>exact h
  |enter f args=>
   refine⟨fun h=>by simp [Fence.wide]at h,(callsIn_wide.2 h).mono fun e w'' he=> ?_⟩;cases e with
   |returned v=>exact he
   |panicked c=>exact absurd he (hpn _ _ _)
   |outgrown=>exact absurd he hno
  |row row args=>
   refine⟨fun h=>by simp [Fence.wide]at h,fun c cs _=> ?_⟩;obtain⟨v,w',r,s⟩:=h c cs;exact⟨v,w',r,stepsIn_wide.2 s⟩
  |_=>exact h.elim
 |halt hl w'=>
  cases hl with
  |panic v=>exact absurd h (hpn _ _ _)
  |_=>exact h.elim
theorem any_wide {P:Program} {md:Region.Mode} {ops:Array Oper} {K:Act→World→Prop}:∀(fuel:Nat) (listed:Array Bool) (a:Act) (w:World),wpAny P md ops (fun e a w=>e=Exit.normal∧K a w) fuel listed a w→wpAnyIn Fence.wide n P md ops (fun e a w=>e=Exit.normal∧K a w) fuel listed a w
 |0,listed,a,w,h=>h
 |fuel+1,listed,a,w,h=>by
  refine⟨h.1,fun i hi=> ?_⟩;have h2:=h.2 i hi;unfold wpOp at h2;unfold wpOpIn;cases ho:ops[i]? with
  |none=>rw [ho]at h2;exact any_wide fuel _ a w h2
  |some o=>
   rw [ho]at h2;simp only at h2⊢;have hno:¬LetsOut (fun e a w=>e=Exit.normal∧K a w):=by rintro⟨a,w,h,_⟩;cases h
   split at h2
   · rename_i hw;rw [if_pos hw];rcases h2 with h2|⟨_,h2⟩
     · exact op_wide (Oper.wp_mono (fun a w h=>any_wide fuel _ a w h) h2) hno (by rintro c a w ⟨h,_⟩;cases h)
     · exact absurd h2 hno
   · rename_i hw;rw [if_neg hw];exact⟨fun _ _=>trivial,any_wide fuel _ _ _ h2⟩
theorem grown_of_fx {w0 w:World} (h:Fx [] w0 w):w0.grownBy w none:=⟨h.os,h.tape,h.output,h.size,fun k hk _=>h.block k hk (by simp)⟩
theorem fresh_sim {ok:Nat→Prop} {w:World} {a:Act} {T:List (Nat×D)} {nk:Nat} (hsz:a.tmps.size=X.nt∧X.nt≤gbase) (hd:a.defers=X.dfs) (hok:∀b,ok b→b<w.heap.size) (hT:∀d x,lookY T d=some x→x= .bad∨∃y,a.tmps[d]?=some y∧Rep ok w x y):
 Sim (fun b=>w.heap.size≤b∨ok b) ⟨valT a.tmps T, [],nk,w,w.heap.size, []⟩ ⟨T, [],nk⟩∧Rel (cx X w []) ⟨valT a.tmps T, [],nk,w,w.heap.size, []⟩ a w:=by
 constructor
 · refine⟨fun d x hx=> ?_,fun k e he=>by simp [findY]at he,rfl,fun j _=> ?_,fun _ _=>rfl⟩
   · rcases hT d x hx with h|⟨y,h1,h2⟩
     · exact .inl h
     · right;refine⟨_,valT_of hx, ?_⟩;have:valS a.tmps d= .v y:=by simp [valS,h1]
       rw [this];exact Rep.rel _ _ (Rep.mono (fun b hb=>⟨⟨⟨.inl (hok b hb), .inr hb⟩,hok b hb,fun c hc=>by simp [bs]at hc⟩,rfl⟩) _ _ h2)
   · have:∀T:List (Nat×D),freshT j (valT a.tmps T)=true:=by
      intro T
      induction T with
      |nil=>rfl
      |cons p T ih=>
       obtain⟨e,y⟩:=p;simp only [valT,freshT];have:ment j (valS a.tmps e)=false:=by unfold valS;cases a.tmps[e]?<;>rfl
       rw [this];exact ih
     exact this T
 · refine⟨hsz,fun d s hs=> ?_,hd,Cls.nil (cx X w []) nk,Nat.le_refl _,by simp⟩;have:=valT_look hs;subst this;cases h:a.tmps[d]? with
   |none=>left;simp [valS,h]
   |some y=>
    have hlt:=(Array.getElem?_eq_some_iff.1 h).1;right;rw [slotv,if_pos (Nat.lt_of_lt_of_le hlt (hsz.1▸hsz.2))];simp [valS,h,den]
def YieldOK (X:Cy) (xs:List (List D)) (ok0:Nat→Prop) (W0:World) (l n:Nat) (J:List (List D)→(Nat→Prop)→World→Prop) (Jx:List (List D)→World→Prop):Prop:=
 ∀pre x vals O W1,J pre O W1→(∀b,O b→b<W1.heap.size)→pre++ [x]<+:xs→RepL (fun b=>(ok0 b∨W0.heap.size≤b)∧b<W1.heap.size∧¬O b) W1 x vals→
  YieldAt Fence.wide n X.P l vals.toArray W1 fun e W'=>
   GIW X.P W'∧((e= .returned (.bool true)∧∃O',J (pre++ [x]) O' W'∧W1.heap.size≤W'.heap.size∧(∀b,O' b→b<W'.heap.size∧(O b∨W1.heap.size≤b))∧∀b,b<W1.heap.size→¬O b→W'.heap[b]?=W1.heap[b]?)∨
   (e= .returned (.bool false)∧Jx (pre++ [x]) W'))
theorem isYield_op {st:Sy} {o:Oper} {args:List Operand} (h:isYield st o=some args):∃c f,o.op= .call c∧c.callee= .value f∧c.args.toList=args:=by
 unfold isYield at h;split at h
 · rename_i c hc;split at h
   · rename_i f hf;split at h
     · exact⟨c,f,hc,hf,Option.some.inj h⟩
     · cases h
   · cases h
 · cases h
theorem yield_okZ (hP:POK X.P X.tt) (hJ:∀pre O A B,J pre O A→A.grownBy B none→J pre O B) (hY:YieldOK X xs ok0 W0 l n J Jx) {o:Oper} {args:List Operand} {sy:Sy} {p:Pre} {a:Act} {w:World} {K:Sy→Pre→Prop} {K':Act→World→Prop} {Q:Exit→Act→World→Prop}
 (hop:isYield sy o=some args∨∃c f,o.op= .call c∧c.callee= .value f∧c.args.toList=args) (h:YieldZ X l xs sy o args p K) (hs:Seg X xs ok0 W0 J Jx p sy a w) (hK:∀sy' p' a' w',K sy' p'→Seg X xs ok0 W0 J Jx p' sy' a' w'→K' a' w'):o.wpIn Fence.wide (n+1) X.P a w K' Q:=by
 obtain⟨pre,x,x',hcal,rfl,hx,hret,hpre,ht,hf⟩:=h.ex;obtain⟨ok,w0,st,hok,hsim,hrel,hgi,hsz,O,hO,hJ0⟩:=hs
 obtain⟨c,f,hopc,hcf,hca⟩:∃c f,o.op= .call c∧c.callee= .value f∧c.args.toList=args:=by
  rcases hop with h|h
  · exact isYield_op h
  · exact h
 simp only [calleeY,hopc,hcf]at hcal;obtain⟨sf,e1,e2,_⟩:=evY_sim hsim hcal
 have hfv:a.eval f= .func (.yield l) #[] #[]:=by
  have:=e2.sc;subst this;simpa [den]using (hrel.ev f _ e1).2
 obtain⟨sx,e3,e4⟩:=evsY_sim hsim hx;have hargs:=(evs_spec hrel.ev e3).1;have hfx0:=hrel.cls.fx0;have hg:=grown_of_fx (show Fx [] w0 w from hfx0);have hJ1:=hJ pre O w0 w hJ0 hg
 --what is handed on
 obtain⟨r',hr',hrep⟩:=retOf_ok (hA_of (ok:=ok) (w0:=w0) hgi) hret hsim hrel (show RelD (okS _ st) st.w (keyS st) (.tup x) (.tup sx) from by simp only [RelD];exact .inl ⟨sx,rfl,e4⟩);subst hr';simp only [Rep]at hrep;obtain⟨av,hav,hrepl⟩:=hrep;have hval:av=(denL st.H sx).toArray:=by simpa [den]using hav.symm
 have hO1:∀b,O b→b<w.heap.size:=fun b hb=>Nat.lt_of_lt_of_le (hO b hb).1 hfx0.size
 have hnO:∀b,(w0.heap.size≤b∨ok b)→¬O b:=fun b hb hOb=>by
  rcases hb with h|h
  · have:=(hO b hOb).1;omega
  · exact(hO b hOb).2 h
 obtain⟨fn,tm,asn,body,hrun,hround⟩:=hY pre x' av.toList O w hJ1 hO1 hpre (RepL.mono (fun b hb=>⟨⟨by
  rcases hb.1 with h|h
  · exact .inr (Nat.le_trans hsz h)
  · exact(hok b h).2,hb.2,hnO b hb.1⟩,rfl⟩) _ _ hrepl)
 unfold Oper.wpIn;refine⟨fun _ _=>trivial, ?_⟩;rw [Fence.wide_round,Oper.semAt_none]
 have harr:c.args.map a.eval=av:=by
  rw [hval];apply Array.ext';rw [←hargs,←hca];simp
 have hexec:(execOp a.eval o).run X.P w= .ok (.round l fn tm asn body) w:=by
  simp only [execOp,hopc,resolve,hcf,Sem.run_bind,hfv,Deferred.ofValue,Sem.run_pure,Result.andThen_ok,invoke,harr];simpa using hrun
 rw [hexec];refine⟨fun h=>by simp [Fence.wide]at h,hround.mono fun e w' he=> ?_⟩
 --the state behind the round
 have hkeep:∀d y,lookY (pubT sy.T) d=some y→y= .bad∨∃v,a.tmps[d]?=some v∧Rep (fun b=>(w0.heap.size≤b∨ok b)∧b<w.heap.size) w y v:=by
  intro d y hd;rcases pubT_look hd with h|⟨h,hc,hlt⟩
  · exact .inl h
  · rcases hsim.T d y h with h|⟨s,g1,g2⟩
    · exact .inl h
    · rcases hrel.T d s g1 with g|g
      · subst g;left;cases y<;>simp_all [RelD,clean,aggL]
      · right;rw [slotv,if_pos hlt]at g;refine⟨_,g, ?_⟩;have:=clean_rep (H:=st.H) _ _ g2 hc;exact Rep.mono (fun b hb=>⟨⟨hb.1.2,Nat.lt_of_lt_of_le hb.2.1 hrel.cls.fx.size⟩,hrel.cls.fx.block b hb.2.1 hb.2.2⟩) _ _ this
 have hnk:sy.nk=st.nk:=hsim.nk;obtain⟨hgi',he⟩:=he;rcases he with⟨rfl,O',hJ',hle,hO',hblk⟩|⟨rfl,hJ'⟩
 · obtain⟨g1,g2⟩:=fresh_sim (X:=X) (ok:=fun b=>(w0.heap.size≤b∨ok b)∧b<w.heap.size) (w:=w') (a:=a) (T:=pubT sy.T) (nk:=sy.nk) hrel.size hrel.dfs (fun b hb=>Nat.lt_of_lt_of_le hb.2 hle) fun d y hd=>by
    rcases hkeep d y hd with h|⟨v,h1,h2⟩
    · exact .inl h
    · exact .inr ⟨v,h1,Rep.mono (fun b hb=>⟨hb,hblk b hb.2 (hnO b hb.1)⟩) _ _ h2⟩
   have hput:=putY_sim (w0:=w') (bor:= []) (s:= .v (.bool true)) ht g1 (by simp only [RelD];exact⟨trivial,rfl⟩);obtain⟨st1,⟨sy1,k1,k2⟩,k3,_⟩:=put_ok g2 hput (v:= .bool true) (.inr (by simp [den]));refine hK sy1 _ _ _ k1 ⟨_,w',st1,fun b hb=>⟨Nat.lt_of_lt_of_le hb.2 hle, ?_⟩,k2,k3,hgi',Nat.le_trans hsz (Nat.le_trans hfx0.size hle),O',fun b hb=>⟨(hO' b hb).1,fun hx=> ?_⟩,hJ'⟩
   · rcases hb.1 with h|h
     · exact .inr (Nat.le_trans hsz h)
     · exact(hok b h).2
   · rcases(hO' b hb).2 with h|h
     · exact hnO b hx.1 h
     · have:=hx.2;omega
 · obtain⟨g1,g2⟩:=fresh_sim (X:=X) (ok:=fun _=>False) (w:=w') (a:=a) (T:=sclT sy.T) (nk:=sy.nk) hrel.size hrel.dfs (fun b hb=>hb.elim) fun d y hd=>by
    rcases sclT_look hd with h|⟨h,x,rfl⟩
    · exact .inl h
    · rcases hkeep d _ h with h|⟨v,h1,h2⟩
      · exact .inl h
      · exact .inr ⟨v,h1,by simp only [Rep]at h2⊢;exact h2⟩
   have hput:=putY_sim (w0:=w') (bor:= []) (s:= .v (.bool false)) hf g1 (by simp only [RelD];exact⟨trivial,rfl⟩);obtain⟨st1,⟨sy1,k1,k2⟩,k3,_⟩:=put_ok g2 hput (v:= .bool false) (.inr (by simp [den]));exact hK sy1 _ _ _ k1 ⟨_,w',st1,fun b hb=>hb.elim,k2,k3,hgi',_,hpre,hJ'⟩
theorem yield_ok (hP:POK X.P X.tt) (hJ:∀pre O A B,J pre O A→A.grownBy B none→J pre O B) (hY:YieldOK X xs ok0 W0 l n J Jx) {o:Oper} {args:List Operand} {sy:Sy} {p:Pre} {a:Act} {w:World} {K:Sy→Pre→Prop} {K':Act→World→Prop} {Q:Exit→Act→World→Prop}
 (hop:isYield sy o=some args∨∃c f,o.op= .call c∧c.callee= .value f∧c.args.toList=args) (h:YieldY X l xs sy o args p K) (hs:Seg X xs ok0 W0 J Jx p sy a w) (hK:∀sy' p' a' w',K sy' p'→Seg X xs ok0 W0 J Jx p' sy' a' w'→K' a' w'):o.wpIn Fence.wide (n+1) X.P a w K' Q:=by
 obtain⟨ks,sy0,hfz,hz⟩:=h.ex;obtain⟨ok,w0,st,hok,hsim,hrel,hgi,hJ0⟩:=hs;obtain⟨st,hsim,hrel,_⟩:=fz_rel1 (hA_of (ok:=ok) (w0:=w0) hgi) hfz hsim hrel;refine yield_okZ hP hJ hY (sy:=sy0) (.inr ?_) hz ⟨ok,w0,st,hok,hsim,hrel,hgi,hJ0⟩ hK;rcases hop with h|h
 · exact isYield_op h
 · exact h
end
section
variable {X : Cy} {xs : List (List D)} {ok0 : Nat → Prop} {W0 : World} {l n : Nat} {J : List (List D) → (Nat → Prop) → World → Prop} {Jx : List (List D) → World → Prop}
theorem guard_seg {ops:List Oper} {o:Oper} {opsA:Array Oper} (hops:opsA.toList=ops) {sy:Sy} {p:Pre} {a:Act} {w:World} {yes no:Sy→Prop} (h:guardY ops o.guard sy yes no) (hs:Seg X xs ok0 W0 J Jx p sy a w):
 ∃sy',Seg X xs ok0 W0 J Jx p sy' a w∧((Region.wanted o (yielded opsA a.tmps)=true∧yes sy')∨(Region.wanted o (yielded opsA a.tmps)=false∧no sy')):=by
 obtain⟨ok,w0,st,h1,h3,h4,h5⟩:=hs;subst hops;have hg:=guard_sim (yes:=fun st'=>∃sy',Sim (fun b=>w0.heap.size≤b∨ok b) st' sy'∧yes sy') (no:=fun st'=>∃sy',Sim (fun b=>w0.heap.size≤b∨ok b) st' sy'∧no sy') h h3 (fun st' sy' h1 h2=>⟨sy',h1,h2⟩) (fun st' sy' h1 h2=>⟨sy',h1,h2⟩);obtain⟨st1,hsm,_,hr1,hg⟩:=guard_ok (X:=cx X w0 []) hg h4;rcases hg with⟨hw,sy1,hs1,hy⟩|⟨hw,sy1,hs1,hn⟩
 · exact⟨sy1,⟨ok,w0,st1,h1,hs1,hr1,h5⟩, .inl ⟨hw,hy⟩⟩
 · exact⟨sy1,⟨ok,w0,st1,h1,hs1,hr1,h5⟩, .inr ⟨hw,hn⟩⟩
theorem put_seg {sy:Sy} {p:Pre} {a:Act} {w:World} {dst:Option Nat} {K:Sy→Prop} (h:putY X sy dst .und K) (hs:Seg X xs ok0 W0 J Jx p sy a w):∃sy',K sy'∧Seg X xs ok0 W0 J Jx p sy' (a.put dst undef) w:=by
 obtain⟨ok,w0,st,h1,h3,h4,h5⟩:=hs;obtain⟨st2,⟨sy2,hK2,hs2⟩,hr2,hH2⟩:=put_ok h4 (putY_sim (w0:=w0) (bor:= []) (s:= .v undef) h h3 (by simp only [RelD])) (v:=undef) (.inr rfl);exact⟨sy2,hK2,ok,w0,st2,h1,hs2,hr2,h5⟩
theorem opsI_ok (hP:POK X.P X.tt) (hJ:∀pre O A B,J pre O A→A.grownBy B none→J pre O B) (hY:YieldOK X xs ok0 W0 l n J Jx) {ops:Array Oper} {Q:Exit→Act→World→Prop}:∀(rest:List Oper) (sy:Sy) (p:Pre) (a:Act) (w:World) (K:Sy→Pre→Prop),
 opsI X l xs ops.toList rest sy p K→Seg X xs ok0 W0 J Jx p sy a w→(∀sy' p' a' w',K sy' p'→Seg X xs ok0 W0 J Jx p' sy' a' w'→Q .normal a' w')→wpListIn Fence.wide (n+1) X.P ops Q rest a w
 | [],sy,p,a,w,K,h,hs,hQ=>hQ sy p a w h hs
 |o::rest,sy,p,a,w,K,h,hs,hQ=>by
  simp only [opsI]at h;split at h
  · rename_i args hy;obtain⟨c,f,hopc,hcf,hca⟩:=isYield_op hy;obtain⟨sy1,hs1,hg⟩:=guard_seg (opsA:=ops) rfl h hs;rcases hg with⟨hw,hyes⟩|⟨hw,hno⟩
    · simp only [wpListIn,hw,if_true];exact yield_ok hP hJ hY (.inr ⟨c,f,hopc,hcf,hca⟩) hyes hs1 fun sy' p' a' w' hk hs'=>opsI_ok hP hJ hY rest sy' p' a' w' K hk hs' hQ
    · simp only [wpListIn,hw];obtain⟨sy2,hk,hs2⟩:=put_seg hno hs1;exact⟨fun _ _=>trivial,opsI_ok hP hJ hY rest sy2 p _ w K hk hs2 hQ⟩
  · rw [op1Y_eq]at h;obtain⟨ok,w0,st,h1,h3,h4,h5⟩:=hs
    have hno:¬LetsOut fun e a w=>e=Exit.normal∧wpListIn Fence.wide (n+1) X.P ops Q rest a w:=by
     rintro⟨a,w,h,_⟩;cases h
    have h:=opsY_ok (ops:=ops) (Q:=fun e a w=>e=Exit.normal∧wpListIn Fence.wide (n+1) X.P ops Q rest a w) (hA_of h5.1) hP [o] st sy a w _ h h3 h4 fun st' sy' a' w' hk hs' hl=>
     ⟨rfl,opsI_ok hP hJ hY rest sy' p a' w' K hk ⟨ok,w0,st',h1,hs',hl.rel,h5⟩ hQ⟩
    simp only [wpList]at h;simp only [wpListIn];split at h
    · rename_i hw;rw [if_pos hw];rcases h with h|⟨_,h⟩
      · exact op_wide (Oper.wp_mono (fun _ _ h=>h.2) h) hno (by rintro c a w ⟨h,_⟩;cases h)
      · exact absurd h hno
    · rename_i hw;rw [if_neg hw];exact⟨fun _ _=>trivial,h.2⟩
theorem codeI_ok (hP:POK X.P X.tt) (hJ:∀pre O A B,J pre O A→A.grownBy B none→J pre O B) (hY:YieldOK X xs ok0 W0 l n J Jx) {yl:List (Nat×Nat)} (c:Code):∀(sy:Sy) (p:Pre) (a:Act) (w:World) (K:Exit→Sy→Pre→Prop) (Q:Exit→Act→World→Prop),
 codeI X l xs yl c sy p K→Seg X xs ok0 W0 J Jx p sy a w→(∀e sy' p' a' w',plain e→K e sy' p'→Seg X xs ok0 W0 J Jx p' sy' a' w'→Q e a' w')→c.wp X.P Q a w:=by
 induction c with
 |skip=>exact fun sy p a w K Q h hs hQ=>wp_skip (hQ .normal sy p a w trivial h hs)
 |label l=>exact fun sy p a w K Q h hs hQ=>wp_label (hQ .normal sy p a w trivial h hs)
 |exit id=>exact fun sy p a w K Q h hs hQ=>wp_exit (hQ (.exit id) sy p a w trivial h hs)
 |ret=>exact fun sy p a w K Q h hs hQ=>wp_ret (hQ .ret sy p a w trivial h hs)
 |region id ops draw=>
  intro sy p a w K Q h hs hQ;cases draw with
  |false=>exact(wpIn_wide (n:=n+1)).1 (wpIn_region_list (opsI_ok hP hJ hY ops.toList sy p a w _ h hs fun sy' p' a' w' hk hs'=>hQ .normal sy' p' a' w' trivial hk hs'))
  |true=>
   simp only [codeI]at h;split at h
   · split at h
     · rename_i pl _ j _;obtain⟨hch,hpl,h⟩:=h;obtain⟨ok,w0,st,h1,hsim,hrel,h5⟩:=hs;obtain⟨T,H,nk⟩:=sy;obtain⟨T',H',nk',ws,lo,iv⟩:=st;have hex:ops.extract 0 j=(ops.toList.take j).toArray:=by apply Array.ext';simp
       have htk:(ops.extract 0 j).toList=ops.toList.take j:=by simp
       rw [←hex]at hpl;simp only [←htk]at h;have hx:=planY_sim (w0:=w0) (bor:= []) (hA_of (ok:=ok) (w0:=w0) h5.1) hP _ h (kill_sim (ops:=(ops.extract 0 j).toList) hsim)
       have hjs:j≤ops.size:=by
        simp only [chainOK,Bool.and_eq_true]at hch;exact Nat.le_of_lt (Nat.blt_eq.mp hch.2.2.2.2)
       have hany:=region_draw_any (X:=cx X w0 []) (Q:=fun e a w=>e=Exit.normal∧wpListIn Fence.wide (n+1) X.P ops Q (ops.toList.drop j) a w) hP hrel hpl hx fun st' a' w' ⟨sy',hk,hs'⟩ hl=>
        ⟨rfl,opsI_ok hP hJ hY _ sy' p a' w' _ hk ⟨ok,w0,st',h1,hs',hl.rel,h5⟩ fun sy' p' a' w' hk hs'=>hQ .normal sy' p' a' w' trivial hk hs'⟩
       have hany:=any_wide (n:=n+1) _ _ _ _ hany
       --the whole region at exits that are no panics
       have hcut:=any_cut (n:=n+1) (Q:=Q) hch (fun a w h=>h) (ops.extract 0 j).size ops.size (Array.replicate (ops.extract 0 j).size false) (Array.replicate ops.size false) a { w with drawn:=w.drawn+1} (by simp;omega) (by simp) (fun i hi=>by
        rw [Array.getElem?_eq_getElem (by simp;omega),Array.getElem?_eq_getElem (by simp;omega)];simp) (fun i hi hi2=>by
        rw [Array.getElem?_eq_getElem (by simp;omega)];simp) (fun m i hm=>by
        by_cases h:m<ops.size
        · rw [Array.getElem?_eq_getElem (by simpa using h)]at hm;simp at hm
        · rw [Array.getElem?_eq_none (by simpa using h)]at hm;cases hm) (by simp;omega) hany
       exact(wpIn_wide (n:=n+1)).1 (wpIn_region_any hP.mix hcut)
     · exact seg_code hP h hs fun e sy' a' w' hp hk hs'=>hQ e sy' p a' w' hp hk hs'
   · exact h.elim
 |seq x y ihx ihy=>
  intro sy p a w K Q h hs hQ;refine wp_seq (ihx sy p a w _ _ h hs fun e sy1 p1 a1 w1 hp hk hs1=> ?_);cases e with
  |normal=>exact ihy sy1 p1 a1 w1 K Q hk hs1 hQ
  |exit id=>exact hQ _ _ _ _ _ hp hk hs1
  |ret=>exact hQ _ _ _ _ _ hp hk hs1
  |goto l=>exact hp.elim
  |panic c=>exact hp.elim
  |outgrown=>exact hp.elim
 |cond c x y ihx ihy=>
  intro sy p a w K Q h hs hQ;simp only [codeI]at h;split at h
  · rename_i b hcd;obtain⟨ok,w0,st,h1,hsim,hrel,h5⟩:=hs;obtain⟨s,g1,g2,_⟩:=evY_sim hsim hcd;have:=g2.sc;subst this;have hb:a.eval c= .bool b:=by simpa [den]using (hrel.ev c _ g1).2
    cases b with
    |true=>exact wp_cond_true hb (ihx sy p a w K Q h ⟨ok,w0,st,h1,hsim,hrel,h5⟩ hQ)
    |false=>exact wp_cond_false hb (ihy sy p a w K Q h ⟨ok,w0,st,h1,hsim,hrel,h5⟩ hQ)
  · exact h.elim
 |block id c ih=>
  intro sy p a w K Q h hs hQ;refine wp_block (ih sy p a w _ _ h hs fun e sy1 p1 a1 w1 hp hk hs1=> ?_);cases e with
  |normal=>exact hQ _ _ _ _ _ hp hk hs1
  |exit j=>
   simp only [Exit.inBlock];simp only at hk;split at hk
   · rename_i hb;rw [if_pos (beqT hb)];exact hQ .normal _ _ _ _ trivial hk hs1
   · rename_i hb;rw [if_neg (beqF hb)];exact hQ _ _ _ _ _ hp hk hs1
  |ret=>exact hQ _ _ _ _ _ hp hk hs1
  |goto l=>exact hp.elim
  |panic c=>exact hp.elim
  |outgrown=>exact hp.elim
 |scope c ih=>
  intro sy p a w K Q h hs hQ;refine wp_scope_straight (ih sy p a w K _ h hs fun e sy1 p1 a1 w1 hp hk hs1=> ?_);cases e with
  |normal=>exact hQ _ _ _ _ _ hp hk hs1
  |exit j=>exact hQ _ _ _ _ _ hp hk hs1
  |ret=>exact hQ _ _ _ _ _ hp hk hs1
  |goto l=>exact hp.elim
  |panic c=>exact hp.elim
  |outgrown=>exact hp.elim
 |loop c ih=>
  intro sy p a w K Q h hs hQ;have h:LoopI (codeI X l xs yl c) sy p K:=h;obtain⟨α,f,pf,inv,μ,⟨x0,hsub,rfl,hinv⟩,hround⟩:=h.ex
  have sub:∀ {sy sy':Sy} {p:Pre} {a:Act} {w:World},SubY sy sy'→Seg X xs ok0 W0 J Jx p sy a w→Seg X xs ok0 W0 J Jx p sy' a w:=by
   intro sy sy' p a w hsub ⟨ok,w0,st,h1,hsim,hrel,h5⟩;obtain⟨st0,hs0,hr0,_⟩:=hsub.rel (hA_of (ok:=ok) (w0:=w0) h5.1) hsim hrel;exact⟨ok,w0,st0,h1,hs0,hr0,h5⟩
  refine(wpIn_wide (n:=n+1)).1 (wpIn_loop_ghost (fun m a1 w1=>∃x,μ x=m∧inv x∧Seg X xs ok0 W0 J Jx (some (pf x)) (f x) a1 w1) (μ x0) ⟨x0,rfl,hinv,sub hsub hs⟩ ?_);rintro m a1 w1 ⟨x,rfl,hinv1,hs1⟩;refine(wpIn_wide (n:=n+1)).2 (ih (f x) _ a1 w1 _ _ (hround x hinv1) hs1 fun e sy2 p2 a2 w2 hp hk hs2=> ?_);cases e with
  |normal=>
   obtain⟨y,hsb,rfl,hi,hlt⟩:=hk;exact⟨μ y,hlt,y,rfl,hi,sub hsb hs2⟩
  |exit j=>exact hQ _ _ _ _ _ hp hk hs2
  |ret=>exact hQ _ _ _ _ _ hp hk hs2
  |goto l=>exact hp.elim
  |panic c=>exact hp.elim
  |outgrown=>exact hp.elim
 |_=>exact fun sy p a w K Q h hs hQ=>(h:False).elim
end
def endI (xs:List (List D)) (e:Exit) (_:Sy) (p:Pre):Prop:=match e with
 | .normal=>p=none∨p=some xs
 | .ret=>p=none∨p=some xs
 |_=>False
theorem does_it {X:Cy} (hP:POK X.P X.tt) {f:FuncId} {fn:Func} {c:Code} (caps:List D) (xs:List (List D)) (yl:List (Nat×Nat)) (hf:X.P.funcs[f]?=some fn) (hb:fn.body=some c) (hn:X.nt=fn.ntmps) (hl:caps.length+1≤fn.ntmps) (hres:fn.results= #[])
 (h:∀l,codeI X l xs yl c ⟨zipY 0 (.v (.func (.yield l) #[] #[])::caps), [],0⟩ (some []) (endI xs)) (h0:X.dfs= []:=by rfl) (hg:fn.ntmps≤gbase:=by exact Nat.le_of_ble_eq_true rfl):DoesIt X.P f caps xs:=by
 intro ok O0 W vl n l J Jx hrep hok hO hgi hJ hJx hY hJ0;refine callsIn_wide.2 (calls_of_wp hf hb (codeI_ok (ok0:=ok) (W0:=W) (l:=l) (n:=n) (J:=J) (Jx:=Jx) hP hJ hY c _ _ _ _ _ _ (h l) ?_ fun e sy' p' a' w' hp hk hs'=> ?_))
 · have hlen:=hrep.length
   obtain⟨g1,g2⟩:=fresh_sim (X:=X) (ok:=ok) (w:=W) (a:= { tmps:=(#[.func (.yield l) #[] #[]]++vl.toArray)++Array.replicate (fn.ntmps-(#[Value.func (.yield l) #[] #[]]++vl.toArray).size) undef,defers:= []}) (T:=zipY 0 (.v (.func (.yield l) #[] #[])::caps)) (nk:=0)
    ⟨by simp [hn,←hlen];omega,hn▸hg⟩ h0.symm (fun b hb=>(hok b hb).1) (fun d x hx=>by
     right;have hr2:RepL ok W (.v (.func (.yield l) #[] #[])::caps) (.func (.yield l) #[] #[]::vl):=by simp only [RepL,Rep];exact⟨⟨trivial,rfl⟩,hrep⟩
     obtain⟨_,h2⟩:=zipY_look hx;obtain⟨y,h3,h4⟩:=hr2.get h2;refine⟨y, ?_,h4⟩;have hlt:=(List.getElem?_eq_some_iff.1 h3).1;rw [Array.getElem?_append_left (by simp at hlt⊢;omega)];have:(#[Value.func (.yield l) #[] #[]]++vl.toArray)=(Value.func (.yield l) #[] #[]::vl).toArray:=by apply Array.ext';simp
     rw [this];simpa using h3)
   exact⟨ok,W,_,fun b hb=>⟨(hok b hb).1, .inl hb⟩,g1,g2,hgi,Nat.le_refl _,O0,fun b hb=>⟨hO b hb,fun h=>(hok b h).2 hb⟩,hJ0⟩
 · obtain⟨ok1,w0,st,h1,hsim,hrel,_,h5⟩:=hs';have hrun:=results_ok (X:=cx X w0 []) hP.tt hrel (fn:=fn) (l:= []) (by rw [hres];rfl);have hfx:=grown_of_fx (show Fx [] w0 w' from hrel.cls.fx0)
   have fin:(p'=none∨p'=some xs)→a'.defers= []∧∃v,(results fn a'.tmps).run X.P w'= .ok v w'∧(∃v1,Ending.returned v= .returned v1)∧((∃O,J xs O w')∨∃pre,pre<+:xs∧Jx pre w'):=by
    intro hp';refine⟨hrel.dfs.trans h0,_,hrun,⟨_,rfl⟩, ?_⟩;rcases hp' with rfl|rfl
    · obtain⟨pre,h6,h7⟩:=h5;exact .inr ⟨pre,h6,hJx _ _ _ h7 hfx⟩
    · obtain⟨_,O,_,h7⟩:=h5;exact .inl ⟨O,hJ _ _ _ _ h7 hfx⟩
   cases e with
   |normal=>exact fin hk
   |ret=>exact fin hk
   |exit id=>exact hk.elim
   |goto l=>exact hp.elim
   |panic c=>exact hp.elim
   |outgrown=>exact hp.elim
def rangeF {S E α:Type} (m:S→α→Option (Sum S E)):List α→S→Option (Sum S E)
 | [],s=>some (.inl s)
 |x::xs,s=>match m s x with
  |none=>none
  |some (.inl s')=>rangeF m xs s'
  |some (.inr e)=>some (.inr e)
def emit {α R:Type} (x:α) (m:Option (List α×R)):Option (List α×R):=match m with|none=>none|some (l,r)=>some (x::l,r)
def bindI {α E R:Type} (m:Option (List α×E)) (f:E→Option (List α×R)):Option (List α×R):=match m with
 |none=>none
 |some (l,e)=>match f e with
  |none=>none
  |some (l',r)=>some (l++l',r)
def loopIO {S E α:Type} (body:S→Option (List α×Sum S E)):Nat→S→Option (List α×E)
 |0,_=>none
 |n+1,s=>match body s with
  |none=>none
  |some (l, .inl s')=>match loopIO body n s' with
   |none=>none
   |some (l',e)=>some (l++l',e)
  |some (l, .inr e)=>some (l,e)
def loopIF {S E α:Type} (body:S→Option (List α×Sum S E)) (s:S):Option (List α×E):=loopIO body FUEL s
theorem emit_some {α R:Type} {x:α} {m:Option (List α×R)} {r:List α×R} (h:emit x m=some r):∃r',m=some r'∧r.1=x::r'.1∧r.2=r'.2:=by
 unfold emit at h;split at h
 · cases h
 · cases h;exact⟨_,rfl,rfl,rfl⟩
theorem bindI_some {α E R:Type} {m:Option (List α×E)} {f:E→Option (List α×R)} {r:List α×R} (h:bindI m f=some r):∃e r',m=some e∧f e.2=some r'∧r.1=e.1++r'.1∧r.2=r'.2:=by
 unfold bindI at h;split at h
 · cases h
 · split at h
   · cases h
   · rename_i l' r' hf;cases h;exact⟨_,_,rfl,hf,rfl,rfl⟩
theorem loopI_step {S E α:Type} {body:S→Option (List α×Sum S E)} {n:Nat} {s:S} {e:List α×E} (h:loopIO body n s=some e):∃m b t,n=m+1∧body s=some b∧e.1=b.1++t∧(match b.2 with
 | .inl s'=>∃e',loopIO body m s'=some e'∧t=e'.1∧e.2=e'.2
 | .inr x=>t= []∧e.2=x):=by
 cases n with
 |zero=>cases h
 |succ n=>
  simp only [loopIO]at h;split at h
  · cases h
  · rename_i l s' hb;split at h
    · cases h
    · rename_i l' e' he;cases h;exact⟨n,_,_,rfl,hb,rfl,_,he,rfl,rfl⟩
  · rename_i l x hb;cases h;exact⟨n,_, [],rfl,hb,by simp,rfl,rfl⟩
structure Hp3 {α:Type} (enc:α→List D) (q:List (List D)) (l:List α) (post xs:List (List D)):Prop where
 eq:q++l.map enc++post=xs
section
variable {α : Type} {enc : α → List D} {q post xs : List (List D)} {l l' : List α} {x : α}
theorem Hp3.emit (h:Hp3 enc q l post xs) (hl:l=x::l'):Hp3 enc (q++ [enc x]) l' post xs:=⟨by rw [←h.eq,hl];simp⟩
theorem Hp3.pre (h:Hp3 enc q l post xs) (hl:l=x::l'):q++ [enc x]<+:xs:=⟨l'.map enc++post,by rw [←h.eq,hl];simp⟩
theorem Hp3.in1 {l1 l2:List α} (h:Hp3 enc q l post xs) (hl:l=l1++l2):Hp3 enc q l1 (l2.map enc++post) xs:=⟨by rw [←h.eq,hl];simp⟩
theorem Hp3.out (h:Hp3 enc q l (l'.map enc++post) xs) (hl:l= []):Hp3 enc q l' post xs:=⟨by rw [←h.eq,hl];simp⟩
theorem Hp3.done (h:Hp3 enc q l [] xs) (hl:l= []):q=xs:=by rw [←h.eq,hl];simp
end
theorem LoopI.of {body:Sy→Pre→(Exit→Sy→Pre→Prop)→Prop} {st:Sy} {q:List (List D)} {K:Exit→Sy→Pre→Prop} {α:Type} (f:α→Sy) (inv:α→List (List D)→Prop) (μ:α→Nat) (x0:α) (hi:inv x0 q) (h0:SubY st (f x0))
 (h:∀x q,inv x q→body (f x) (some q) fun e st2 p2=>match e with
  | .normal=>∃y q',SubY st2 (f y)∧p2=some q'∧inv y q'∧μ y<μ x
  |e=>K e st2 p2):LoopI body st (some q) K:=by
 refine⟨⟨α×List (List D),fun x=>f x.1,fun x=>x.2,fun x=>inv x.1 x.2,fun x=>μ x.1,⟨(x0,q),h0,rfl,hi⟩,fun x hx=> ?_⟩⟩;have:=h x.1 x.2 hx
 have mono:(fun(e:Exit) (st2:Sy) (p2:Pre)=>match e with
  | .normal=>∃y q',SubY st2 (f y)∧p2=some q'∧inv y q'∧μ y<μ x.1
  |e=>K e st2 p2)=fun e st2 p2=>match e with
  | .normal=>∃y:α×List (List D),SubY st2 (f y.1)∧p2=some y.2∧inv y.1 y.2∧μ y.1<μ x.1
  |e=>K e st2 p2:=by
  funext e st2 p2;cases e<;>simp
 exact(mono▸this:_)
theorem YieldZ.of {X:Cy} {l:Nat} {xs:List (List D)} {st:Sy} {o:Oper} {args:List Operand} {q:List (List D)} {K:Sy→Pre→Prop} {x x':List D} (h1:calleeY st o=some (.v (.func (.yield l) #[] #[]))) (h2:evsY st args=some x) (h3:retOf st (.tup x) fun y=>y= .tup x') (h4:q++ [x']<+:xs)
 (h5:putY X ⟨pubT st.T, [],st.nk⟩ o.dst (.v (.bool true)) fun st=>K st (some (q++ [x']))) (h6:putY X ⟨sclT st.T, [],st.nk⟩ o.dst (.v (.bool false)) fun st=>K st none):YieldZ X l xs st o args (some q) K:=⟨⟨q,x,x',h1,rfl,h2,h3,h4,h5,h6⟩⟩
theorem YieldY.of {X:Cy} {l:Nat} {xs:List (List D)} {st:Sy} {o:Oper} {args:List Operand} {q:List (List D)} {K:Sy→Pre→Prop} {x x':List D} (h1:calleeY st o=some (.v (.func (.yield l) #[] #[]))) (h2:evsY st args=some x) (h3:retOf st (.tup x) fun y=>y= .tup x') (h4:q++ [x']<+:xs)
 (h5:putY X ⟨pubT st.T, [],st.nk⟩ o.dst (.v (.bool true)) fun st=>K st (some (q++ [x']))) (h6:putY X ⟨sclT st.T, [],st.nk⟩ o.dst (.v (.bool false)) fun st=>K st none):YieldY X l xs st o args (some q) K:=⟨[],st,rfl,YieldZ.of h1 h2 h3 h4 h5 h6⟩
theorem YieldY.fz {X:Cy} {l:Nat} {xs:List (List D)} {st st0:Sy} {o:Oper} {args:List Operand} {p:Pre} {K:Sy→Pre→Prop} (ks:List Nat) (h:fzAll ks st []=some (st0, [])) (hz:YieldZ X l xs st0 o args p K):YieldY X l xs st o args p K:=⟨ks,st0,h,hz⟩
theorem enters_f {P:Program} {tt:List (Nat×TI)} (hP:POK P tt) {g:Nat} {fn:Func} {c:Code} (hfn:P.funcs[g]?=some fn) (hb:fn.body=some c):∀args w,(callFunc g args).run P w= .ok (.enter g args) w:=by
 intro args w;have hng:=hP.ng g fn hfn;simp only [callFunc,Sem.run_bind,run_program,hfn,Result.andThen_ok];simp [hng,hb]
def domB (fz:List Nat):List (Nat×D)→Bool
 | []=>true
 |(d,_)::T=>match memN d fz with|true=>domB fz T|false=>false
theorem domB_ok {fz:List Nat} {d:Nat} {x:D}:∀ {T:List (Nat×D)},domB fz T=true→lookY T d=some x→d∈fz
 | [],_,h=>by cases h
 |(e,y)::T,h,hx=>by
  simp only [domB]at h;simp only [lookY]at hx;split at h
  · rename_i hm;split at hx
    · rename_i hb;obtain rfl:=beqT hb;exact memN_iff.1 hm
    · exact domB_ok h hx
  · cases h
theorem rangeF_snoc {S E α:Type} {m:S→α→Option (Sum S E)}:∀(l:List α) (x:α) (r:List α) (s:S) {s1:S} {ev:Sum S E},rangeF m l s=some (.inl s1)→rangeF m (l++x::r) s=some ev→∃b,m s1 x=some b∧rangeF m (l++ [x]) s=some b:=by
 intro l x r s s1 ev h1 h2
 induction l generalizing s with
 |nil=>
  simp only [rangeF]at h1;cases h1;simp only [List.nil_append,rangeF]at h2⊢;cases hm:m s1 x with
  |none=>rw [hm]at h2;cases h2
  |some b=>refine⟨b,rfl, ?_⟩;cases b<;>rfl
 |cons y l ih=>
  simp only [rangeF,List.cons_append]at h1 h2⊢;cases hm:m s y with
  |none=>rw [hm]at h1;cases h1
  |some b=>
   rw [hm]at h1 h2;cases b with
   |inl s'=>exact ih s' h1 h2
   |inr e=>cases h1
theorem RangeY.of {X:Cy} {g:Operand} {ps:Array Tmp} {assign body:Code} {st:Sy} {K:Exit→Sy→Prop} {α S E:Type} {gf:FuncId} {caps:List D} (enc:α→List D) (xs:List α) (m:S→α→Option (Sum S E)) (f:S→Sy) (fe:E→Sy) (ex:E→Exit) (s0:S) (ev:Sum S E)
 (fz:List Nat) (hit:DoesIt X.P gf caps (xs.map enc)) (hm:rangeF m xs s0=some ev) (heg:∀args w,(callFunc gf args).run X.P w= .ok (.enter gf args) w)
 (hg:evY st g=some (.fn gf [] caps)) (hcl:cleanL caps=true) (hps:∀x,(enc x).length=ps.size) (hasg:roundOK fz assign=true) (hr:roundOK fz body=true) (hf:freeOf fz ps.toList=true) (hdom:∀s,domB fz (f s).T=true) (hdome:∀e,domB fz (fe e).T=true)
 (hsub:SubY st (f s0)) (hdone:∀s,ev= .inl s→K .normal (f s)) (hstop:∀s,ev= .inr s→K (ex s) (fe s)) (hex:∀e,ex e= .ret∨∃id,ex e= .exit id)
 (hround:∀s x b,m s x=some b→bindY { X with dfs:= []} ps.toList (enc x) (f s) fun st1=>codeY { X with dfs:= []} assign st1<|behindY { X with dfs:= []} body fun e sy=>match e with
  | .normal=>∃s',b= .inl s'∧SubY sy (f s')
  | .ret=>∃s',b= .inr s'∧ex s'= .ret∧SubY sy (fe s')
  | .exit id=>∃s',b= .inr s'∧ex s'= .exit id∧SubY sy (fe s')
  |_=>False):RangeY X g ps assign body st K:=by
 have key:∀(pre:List (List D)) (x:List D),pre++ [x]<+:xs.map enc→∃y r,x=enc y∧xs=xs.take pre.length++y::r∧xs.take (pre.length+1)=xs.take pre.length++ [y]:=by
  rintro pre x ⟨t,ht⟩
  have hlt:pre.length<xs.length:=by
   have:=congrArg List.length ht;simp at this;omega
  refine⟨xs[pre.length],xs.drop (pre.length+1), ?_, ?_, ?_⟩
  · have h1:(xs.map enc)[pre.length]?=some x:=by rw [←ht];simp
    rw [List.getElem?_map,List.getElem?_eq_getElem hlt]at h1;exact(Option.some.inj h1).symm
  · rw [←List.drop_eq_getElem_cons hlt,List.take_append_drop]
  · rw [List.take_add_one,List.getElem?_eq_getElem hlt];rfl
 --a round that stops:its way out is the whole's
 have stop:∀(l:List α) (y:α) (r:List α) (e:E) (s:S),rangeF m (l++ [y]) s=some (.inr e)→rangeF m (l++y::r) s=some (.inr e):=by
  intro l y r e s
  induction l generalizing s with
  |nil=>
   intro h;simp only [List.nil_append,rangeF]at h⊢;cases hb:m s y with
   |none=>rw [hb]at h;cases h
   |some b=>
    rw [hb]at h;cases b with
    |inl s'=>cases h
    |inr e'=>exact h
  |cons z l ih=>
   intro h;simp only [List.cons_append,rangeF]at h⊢;cases hb:m s z with
   |none=>rw [hb]at h;cases h
   |some b=>
    rw [hb]at h;cases b with
    |inl s'=>exact ih s' h
    |inr e'=>exact h
 refine⟨⟨gf,caps,xs.map enc,fz,Sum S E,fun s=>match s with| .inl s=>f s| .inr e=>fe e,fun _ s=>match s with| .inl s=>f s| .inr e=>fe e,
  fun pre s=>∃s',s= .inl s'∧rangeF m (xs.take pre.length) s0=some (.inl s'),fun e _ s=>∃s',s= .inr s'∧ex s'=e∧ev= .inr s', .inl s0,hg,hcl,hit,heg, ?_,hasg,hr,hf,hsub,⟨s0,rfl,rfl⟩, ?_, ?_, ?_, ?_, ?_⟩⟩
 · intro x hx;obtain⟨y,_,rfl⟩:=List.mem_map.1 hx;exact hps y
 · intro s d x hx;cases s with
   |inl s=>exact domB_ok (hdom s) hx
   |inr s=>exact domB_ok (hdome s) hx
 · intro e s d x hx;cases s with
   |inl s=>exact domB_ok (hdom s) hx
   |inr s=>exact domB_ok (hdome s) hx
 · rintro pre s x hpre ⟨s',rfl,hl⟩;obtain⟨y,r,rfl,e2,e3⟩:=key _ _ hpre;obtain⟨b,hb,hb2⟩:=rangeF_snoc _ y r s0 hl (e2▸hm);have hlen:(pre++ [enc y]).length=pre.length+1:=by simp
   refine⟨_,fun e sy h=> ?_,hround s' y b hb⟩
   ·
     have hout:∀s',b= .inr s'→ev= .inr s':=by
      intro s' hbs;subst hbs;have:=stop _ y r s' s0 hb2;rw [←e2,hm]at this;exact Option.some.inj this
     cases e with
     |normal=>
      obtain⟨s2,rfl,h2⟩:=h;exact⟨.inl s2,⟨s2,rfl,by rw [hlen,e3];exact hb2⟩,h2⟩
     |ret=>
      obtain⟨s2,h1,h2,h3⟩:=h;exact⟨.inr s2,⟨s2,rfl,h2,hout s2 h1⟩,h3⟩
     |exit id=>
      obtain⟨s2,h1,h2,h3⟩:=h;exact⟨.inr s2,⟨s2,rfl,h2,hout s2 h1⟩,h3⟩
     |_=>exact h.elim
 · rintro s ⟨s',rfl,hr⟩;rw [List.length_map,List.take_length]at hr;rw [hm]at hr;exact hdone s' (Option.some.inj hr)
 · rintro e pre s hpre ⟨s',rfl,rfl,h2⟩ he;exact hstop s' h2
end Go.Sx
