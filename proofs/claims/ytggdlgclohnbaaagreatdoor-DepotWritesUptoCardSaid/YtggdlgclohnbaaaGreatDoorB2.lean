/- The walk over pure data: its definitions, that it is sound, and what may be read at a type. -/
import Derived.Test.YtggdlgclohnbaaaGreatDoorB1
import Derived.Lib.ConvBytes
import Derived.Laws.BytesString
import Derived.MapKept
import Derived.ChangeKeysEq
import Derived.Laws.CopyRow
import Derived.RangeFuncNested
import Derived.RangeFuncBound
import Derived.RangeFuncCalls
import Derived.RangeFuncLeaves
import Derived.TacticsIn
import Derived.OrdersIn
import Derived.Sort.LoopGhostIn
set_option linter.unusedVariables false
set_option linter.unusedSimpArgs false
namespace Go.Sx
open Go Go.RowKit
theorem b7f {P:Program} {o:Oper} {a:Act} {w w':World} {v:Value} {K:Act→World→Prop} {Q:Exit→Act→World→Prop} (h:(execOp a.eval o).run P w= .ok (.value v) w') (hk:K (a.put o.dst v) w'):o.wp P a w K Q:=by
 unfold Oper.wp;rw [h];exact hk
theorem c4y {P:Program} {o:Oper} {a:Act} {w w':World} {K:Act→World→Prop} {Q:Exit→Act→World→Prop} (h:(execOp a.eval o).run P w= .ok .skip w') (hk:K (a.put o.dst undef) w'):o.wp P a w K Q:=by
 unfold Oper.wp;rw [h];exact hk
theorem b1K:∀(xs:List Int) (s:ByteArray),xs.foldl (fun r n=>r.push (UInt8.ofNat n.toNat)) s=⟨s.data++(xs.map fun n=>UInt8.ofNat n.toNat).toArray⟩
 | [],s=>by simp
 |x::xs,s=>by
  rw [List.foldl_cons,b1K xs];simp only [ByteArray.push,C4,ByteArray.mk.injEq];apply F9;simp
theorem c3e {P:Program} (w:World) {ad:Option Addr} {n c:Nat} (xs:List Int) (hn:xs.length=n) (h:n=0∨∃b o,ad=some ⟨b,o,none⟩∧∀j,j<n→w.cell? ⟨b,o+j,none⟩=(xs.map (Value.int .u8))[j]?):
 (Conv.bytesToString (.slice ad n c)).run P w= .ok (.string (a1x xs)) w:=by
 have fin:∀a:Addr,(loadCells a n).run P w= .ok (xs.map (Value.int .u8)).toArray w→(Conv.bytesToString (.slice (some a) n c)).run P w= .ok (.string (a1x xs)) w:=by
  intro a h;rw [run_bytesToString w a n c xs h,b1K];simp only [a1x,ByteArray.empty,ByteArray.emptyWithCapacity];congr 2;simp;rfl
 rcases h with rfl|⟨b,o,rfl,h⟩
 · have hx:xs= []:=a2r hn;subst hx;cases ad with
   |none=>rfl
   |some a=>exact fin a rfl
 · refine fin _ ?_
   have:=run_loadCells_list (P:=P) (w:=w) ⟨b,o,none⟩ (xs.map (Value.int .u8)) (fun j v hj=>by
    rw [G0,h j (by have:=(I5.1 hj).1;simpa [hn]using this),hj])
   simpa [hn]using this
theorem b4K {ok:Nat→Prop} {w:World}:∀ {xs:List Int} {r:List Value},j1 ok w (xs.map fun x=> .v (.int .u8 x)) r→r=xs.map (Value.int .u8)
 | [], [],_=>rfl
 |x::xs,y::r,h=>by
  simp only [C4,j1,Rep]at h;rw [h.1.1,b4K h.2];rfl
 | [],_::_,h=>by simp [j1]at h
 |_::_, [],h=>by simp [j1]at h
theorem a9x (w:World) (e:TypeId) (s:ByteArray):Below w.heap.size w (Lib.bytesWorld w e s):=
 ⟨rfl,rfl,rfl,by rw [Lib.bytesWorld_size];omega,fun i hi=>Lib.bytesWorld_at_old w e s i hi⟩
section
variable {A : Nat → Prop} {X : Cy} {w0 : World} {bor : List Nat} {st : St} {sy : Sy} {a : Act} {w : World}
theorem b9C (hr:Rel (cx X w0 bor) st a w) (hs:Sim A st sy) {o:Oper} {Q:Exit→Act→World→Prop} {KY:Sy→Prop} {r:D} {v:Value} {w':World} (hrun:(execOp a.eval o).run X.P w= .ok (.value v) w') (hb:Below w.heap.size w w')
 (hrd:d8 (okS A (now st w')) w' (u6 (now st w')) r (.v v)) (hp:F8 X sy o.dst r KY):o.wp X.P a w (LvY A (cx X w0 bor) st.H w KY) Q:=by
 refine b7f hrun ?_;have hput:=y4 (w0:=w0) (bor:=bor) hp (hs.past hr.cls hb) hrd;obtain⟨st2,⟨sy2,h1,h2⟩,h3,h4⟩:=R4 (hr.past hb) hput (v:=v) (.inr rfl);exact⟨st2,sy2,h1,h2,h3,(Fx.refl _ _).of_below hb,fun b hb2=> .inl (by rw [h4]at hb2;exact hb2)⟩
theorem c1o {T:List (Nat×D)} {H:Hy} {nk:Nat} {T':List (Nat×SV)} {H':Hp} {nk':Nat} {w w1:World} {lo lo1:Nat} {iv iv1:List (Nat×Nat)} {b:Nat} {m:MTy}
 (hs:Sim A ⟨T',H',nk',w,lo,iv⟩ ⟨T,H,nk⟩) (hv:w.heap.size≤b) (hfx:Fx (bs H') w w1) (hlo:(lo1=w1.heap.size)∨(lo1=lo∧iv1=iv)):
 Sim A ⟨T',(nk', .mp b [] m)::H',nk'+1,w1,lo1,iv1⟩ ⟨T,(nk, .mp [] m)::H,nk+1⟩:=by
 have hnk:nk=nk':=hs.nk;subst hnk
 have hok:∀c,okS A ⟨T',H',nk,w,lo,iv⟩ c→okS A ⟨T',(nk, .mp b [] m)::H',nk+1,w1,lo1,iv1⟩ c∧w1.heap[c]?=w.heap[c]?:=by
  intro c ⟨h1,h2,h3⟩;refine⟨⟨⟨?_,h1.2⟩,E3 h2 hfx.size,fun x hx=> ?_⟩,hfx.block c h2 h3⟩
  · rcases hlo with rfl|⟨rfl,rfl⟩
    · exact .inl (E3 h2 hfx.size)
    · exact h1.1
  · simp only [bs,bsE,B2,a1n]at hx;rcases hx with hx|hx
    · subst hx;intro e;simp only at h2;omega
    · exact h3 x hx
 have hk:∀q k,u6 ⟨T',H',nk,w,lo,iv⟩ q k→u6 ⟨T',(nk, .mp b [] m)::H',nk+1,w1,lo1,iv1⟩ q k:=by
  intro q k ⟨h1,h2⟩;simp only at h1;refine⟨by simp only;omega,fun hq=> ?_⟩;simp only;rw [H5 (by omega)];exact h2 hq
 refine⟨fun d x hx=> ?_,fun k e he=> ?_,rfl,fun j hj=>hs.fT j (by simp only at hj⊢;omega),fun j hj=>H7 rfl (hs.fH j (by simp only at hj⊢;omega))⟩
 · rcases hs.T d x hx with h|⟨s,h1,h2⟩
   · exact .inl h
   · exact .inr ⟨s,h1,d8.mono hok hk _ _ h2⟩
 · simp only [j7]at he;simp only [e8];cases hb:Nat.beq nk k with
   |true=>
    rw [hb]at he;cases he;exact⟨_,rfl,rfl,rfl⟩
   |false=>
    rw [hb]at he;obtain⟨e',h1,h2⟩:=hs.H k e he;exact⟨e',h1,a0I.mono hok hk h2⟩
theorem c4G {o:Oper} {Q:Exit→Act→World→Prop} {KY:Sy→Prop} (hr:Rel (cx X w0 bor) st a w) (hs:Sim A st sy) {t:TypeId} (hop:o.op= .makeMap t none) {m:MTy}
 (h:match sy with|⟨T,H,nk⟩=>F8 X ⟨T,(nk, .mp [] m)::H,nk+1⟩ o.dst (.row nk 0) KY):o.wp X.P a w (LvY A (cx X w0 bor) st.H w KY) Q:=by
 have hr0:=hr.now;have hs0:=hs.now hr.cls;have hrun:(execOp a.eval o).run X.P w= .ok (.value (.map (some w.heap.size))) (w.alloc (.map #[] 0)):=by simp [execOp,hop,Instr.makeMap,Result.andThen]
 refine b7f hrun ?_;obtain⟨T,H,nk⟩:=sy;obtain⟨T',H',nk',ws,lo,iv⟩:=st;have hnk:nk=nk':=hs.nk;subst hnk;obtain⟨g1,g2⟩:=MapKept.heap_alloc w (.map #[] 0);have hsz:(w.alloc (.map #[] 0)).heap.size=w.heap.size+1:=by simp
 have hrel:=hr0.cons (w':=w.alloc (.map #[] 0)) (e:= .mp w.heap.size [] m) (hs.fT nk (u0 _)) (hs.fH nk (u0 _)) (by omega) (fun i hi=>g2 i hi) rfl rfl rfl ⟨#[],0,g1,rfl,fun p hp=>by cases hp⟩ (fun b hb=>by simp [bsE]at hb;omega) (by simp [bsE]);have hrel2:=hrel.now;have hfx:Fx (bs H') w (w.alloc (.map #[] 0)):=⟨rfl,rfl,rfl,by omega,fun i hi _=>g2 i hi⟩
 have hsim:Sim A ⟨T',(nk, .mp w.heap.size [] m)::H',nk+1,w.alloc (.map #[] 0),(w.alloc (.map #[] 0)).heap.size, []⟩ ⟨T,(nk, .mp [] m)::H,nk+1⟩:=
  c1o (lo:=w.heap.size) (iv:= []) (w:=w) hs0 (u0 _) hfx (.inl rfl)
 have hput:=y4 (w0:=w0) (bor:=bor) (s:= .row nk) h hsim (by simp only [d8];exact⟨trivial,by simp only;omega,fun _=>⟨_,by simp only [e8,Nat.beq_refl];rfl,rfl⟩⟩);obtain⟨st2,⟨sy2,h1,h2⟩,h3,h4⟩:=R4 hrel2 hput (v:= .map (some w.heap.size)) (.inr (by simp [den,l3,now,e8]));refine⟨st2,sy2,h1,h2,h3,hfx,fun b hb2=> ?_⟩;rw [h4]at hb2;simp only [now,bs,bsE,B2,a1n]at hb2;rcases hb2 with hb2|hb2
 · exact .inr (by omega)
 · exact .inl hb2
theorem c6e (hP:POK X.P X.tt) {o:Oper} {Q:Exit→Act→World→Prop} {KY:Sy→Prop} (hr:Rel (cx X w0 bor) st a w) (hs:Sim A st sy) {t:TypeId} {mo ko xo:Operand} (hop:o.op= .mapUpdate t mo ko xo) {j z:Nat} {kd:D} {xv:Value} {es:List (Value×Value)} {m:MTy} {kc:List Value}
 (hm:evY sy mo=some (.row j z)) (hk:evY sy ko=some kd) (hx:evY sy xo=some (.v xv)) (hf:j7 sy.H j=some (.mp es m)) (hM:a7R X.P X.tt m) (ht:m.t=t) (hpl:plV xv=true) (hkc:a5q m.ag kd=some kc) (hty:m8 m.ks kc)
 (h:match sy with|⟨T,H,nk⟩=>F8 X ⟨T,a7z H j (.mp (a4N (B9 m.ag kc) xv es kc) m),nk⟩ o.dst .und KY):o.wp X.P a w (LvY A (cx X w0 bor) st.H w KY) Q:=by
 have hr0:=hr.now;have hs0:=hs.now hr.cls;obtain⟨s1,e1,r1,_⟩:=j9 hs hm;obtain⟨s2,e2,r2,_⟩:=j9 hs hk;obtain⟨s3,e3,r3,_⟩:=j9 hs hx;simp only [d8]at r1 r3;obtain⟨rfl,_⟩:=r1;obtain⟨rfl,_⟩:=r3;obtain⟨e',hf',he⟩:=hs.H _ _ hf;cases e' with
 |blk=>exact he.elim
 |row=>exact he.elim
 |mp b es' m'=>
  obtain⟨rfl,rfl⟩:=he;have hat:a6A w b es m:=by have:=hr.cls.own j _ (l5 hf');exact this
  obtain⟨w',hrun,hat',hfx,hsz⟩:=b1B hP.tt hM hat hty hpl;have hd1:=(hr.ev _ _ e1).2;have hd2:=(hr.ev _ _ e2).2;have hd3:=(hr.ev _ _ e3).2;have hden:den st.H (.row j)= .map (some b):=by simp [den,l3,hf']
  have hex:(execOp a.eval o).run X.P w= .ok .skip w':=by
   simp only [execOp,hop,hd1,hd2,hd3,hden,a7F hkc r2,←ht,Sem.run_bind];rw [show den st.H (.v xv)=xv from rfl,hrun];rfl
  refine c4y hex ?_;obtain⟨T,H,nk⟩:=sy;obtain⟨T',H',nk',ws,lo,iv⟩:=st;have hnk:nk=nk':=hs.nk;subst hnk;simp only at hf';obtain⟨H1,H2,hH,hk1,hupd⟩:=a8o hf'
  have hdd:∀i,bOf (H1++(j, .mp b (a4N (B9 m.ag kc) xv es kc) m)::H2) i=bOf (H1++(j, .mp b es m)::H2) i∧l3 (H1++(j, .mp b (a4N (B9 m.ag kc) xv es kc) m)::H2) i=l3 (H1++(j, .mp b es m)::H2) i:=by
   intro i;simp only [bOf,l3,S7 (e:= .mp b (a4N (B9 m.ag kc) xv es kc) m) (e0:= .mp b es m) hk1];by_cases hj:i=j
   · subst hj;simp [R2 hk1]
   · simp [hj]
  have hr3:Rel (cx X w0 bor) ⟨T',H1++(j, .mp b (a4N (B9 m.ag kc) xv es kc) m)::H2,nk,w,w.heap.size, []⟩ a w':=by
   have hr2:Rel (cx X w0 bor) ⟨T',H1++(j, .mp b es m)::H2,nk,w,w.heap.size, []⟩ a w:=by
    have:=hr0;unfold Sx.now at this;simp only at this;rw [hH]at this;exact this
   exact hr2.swap rfl hdd hsz (fun i hi=>by
    by_cases hlt:i<w.heap.size
    · exact hfx.block i hlt fun c hc e=>hi (by simp [bsE]at hc⊢;omega)
    · rw [a9G (by omega),a9G (by omega)]) hfx.os hfx.tape hfx.output hat'
  have hr4:=hr3.now
  have s3:Sim A ⟨T',U5 H' j (.mp b (a4N (B9 m.ag kc) xv es kc) m),nk,w,w.heap.size, []⟩ ⟨T,a7z H j (.mp (a4N (B9 m.ag kc) xv es kc) m),nk⟩:=
   b0l (e0:= .mp b es m) hs0 hf' (by exact⟨rfl,rfl⟩) rfl (fun _=>rfl) fun j hj=>rfl
  rw [hupd]at s3;have s4:=s3.now hr3.cls;have hput:=y4 (w0:=w0) (bor:=bor) (s:= .v undef) h s4 (by simp only [d8]);obtain⟨st2,⟨sy2,g1,g2⟩,g3,g4⟩:=R4 hr4 hput (v:=undef) (.inr rfl);refine⟨st2,sy2,g1,g2,g3,hfx.wide fun c hc=>u2.2 ⟨j,_,l5 hf',by simpa [bsE]using hc⟩,fun c hb2=> .inl ?_⟩
  rw [g4]at hb2;have:bs (H1++(j,Ent.mp b (a4N (B9 m.ag kc) xv es kc) m)::H2)=bs H':=by rw [hH];exact a7l rfl
  rw [←this];exact hb2
theorem c6n (hA:AG A X.P w0 bor) (hP:POK X.P X.tt) {o:Oper} {Q:Exit→Act→World→Prop} {KY:Sy→Prop} (h:xop X sy o.dst o.op KY) (hs:Sim A st sy) (hr:Rel (cx X w0 bor) st a w):o.wp X.P a w (LvY A (cx X w0 bor) st.H w KY) Q:=by
 have hstr:∀ {src dt:TypeId} {x:Operand} {s:SV} {ad:Option Addr} {n c:Nat} {xs:List Int} {e:TypeId},o.op= .convert src dt x→ev st x=some s→den st.H s= .slice ad n c→X.P.underlying src=some (.slice e)→X.P.underlying e=some (.int .u8)→X.P.underlying dt=some .string→xs.length=n→
  (n=0∨∃b o,ad=some ⟨b,o,none⟩∧∀j,j<n→w.cell? ⟨b,o+j,none⟩=(xs.map (Value.int .u8))[j]?)→F8 X sy o.dst (.v (.string (a1x xs))) KY→o.wp X.P a w (LvY A (cx X w0 bor) st.H w KY) Q:=by
  intro src dt x s ad n c xs e hop he hden h1 h2 h3 hn hc hp;have hd:=(hr.ev _ _ he).2;rw [hden]at hd;refine b9C hr hs (v:= .string (a1x xs)) (w':=w) ?_ ⟨rfl,rfl,rfl,u0 _,fun _ _=>rfl⟩ (by simp only [d8];exact⟨trivial,rfl⟩) hp;simp only [execOp,hop,hd,Sem.run_bind,run_convert_bytes_string w src dt e ad n c h1 h2 h3,c3e w xs hn hc,Result.andThen_ok,Sem.run_pure]
 unfold xop at h;split at h
 · rename_i t r hop;split at h
   · obtain⟨m,⟨rfl,hm⟩,h⟩:=h;exact c4G hr hs hop (m:=m) h
   · exact h.elim
 · rename_i t mo ko xo hop;split at h
   · rename_i j z kd xv hm hk hx;split at h
     · rename_i es mt hf;obtain⟨⟨hM,ht,hpl⟩,kc,es',⟨hkc,hty,rfl⟩,h⟩:=h;have h:=a0A h;exact c6e hP hr hs hop hm hk hx hf hM ht hpl hkc hty (by obtain⟨T,H,nk⟩:=sy;exact h)
     · exact h.elim
   · exact h.elim
 · rename_i src dt x hop;split at h
   · rename_i s hx;obtain⟨⟨e,u,h1,h2,h3⟩,hsz,l,n,⟨rfl,rfl⟩,hp⟩:=h;obtain⟨s1,e1,r1,_⟩:=j9 hs hx;simp only [d8]at r1;obtain⟨rfl,_⟩:=r1;have hd:=(hr.ev _ _ e1).2;refine b9C hr hs (v:= .slice (some ⟨w.heap.size,0,none⟩) s.size (grownCap w s.size 0 e)) (w':=Lib.bytesWorld w e s) ?_ (a9x w e s) ?_ hp
     · rw [show den st.H (.v (.string s))= .string s from rfl]at hd;simp only [execOp,hop,hd,Sem.run_bind,Lib.run_convert_string_bytes w src dt e s h1 h2 h3,Result.andThen_ok,Sem.run_pure]
     · simp only [d8];refine⟨_,rfl, ?_⟩;simp only [Rep];refine⟨_,_,rfl,grownCap_ge _ _ _ _,by omega,by simp [a8K],F0 fun d hd=>by simp only [a8K,E8]at hd;obtain⟨x,_,rfl⟩:=hd;rfl, .inr ⟨w.heap.size,0,s.data.toList.map fun b=> .int .u8 b.toNat,rfl, ?_, ?_,fun j hj=> ?_⟩⟩
       · refine⟨⟨.inl ?_,hA.a _ (.inl hr.cls.fx0.size)⟩, ?_,fun c hc e=> ?_⟩
         · simp only [now];rw [Lib.bytesWorld_size];omega
         · simp only [now];rw [Lib.bytesWorld_size];omega
         · have:=hr.cls.lt_size hc;omega
       · unfold a8K;generalize s.data.toList=L
         induction L with
         |nil=>trivial
         |cons b L ih=>exact⟨by simp only [Rep];exact⟨trivial,rfl⟩,ih⟩
       · have hj':j<s.size:=by omega
         rw [R6,Lib.bytesWorld_cell w e s j hj'];have:j<s.data.toList.length:=by simpa using hj'
         have h2:j<s.data.size:=by simpa using this
         have h4:s.data[j]?=some s.data[j]:=a1l h2;simp [List.getD,h4]
   · rename_i z n l hx;obtain⟨⟨rfl,e,h1,h2,h3⟩,xs,rfl,hp⟩:=h;obtain⟨s1,e1,r1,_⟩:=j9 hs hx;simp only [d8,Rep]at r1;obtain⟨y,rfl,ad,c,rfl,hnc,hmx,hlen,hfl,hmem⟩:=r1;have hn:xs.length=n:=by simpa using hlen
     refine hstr hop e1 rfl h1 h2 h3 hn ?_ hp;rcases hmem with rfl|⟨b,o',ys,rfl,hok,hrep,hcell⟩
     · exact .inl (by omega)
     · refine .inr ⟨b,o',rfl,fun j hj=> ?_⟩;have:=b4K hrep;subst this;rw [←hcell j (by omega)];simp only [World.cell?];rw [hr.cls.fx.block b hok.2.1 hok.2.2]
   · rename_i j z0 hx;split at h
     · rename_i z n l ty hf;obtain⟨⟨rfl,e,h1,h2,h3⟩,xs,rfl,hp⟩:=h;obtain⟨s1,e1,r1,_⟩:=j9 hs hx;simp only [d8]at r1;obtain⟨rfl,_⟩:=r1;obtain⟨e',hf',he⟩:=hs.H _ _ hf;cases e' with
       |blk=>exact he.elim
       |mp=>exact he.elim
       |row v n' ys z' ty'=>
        obtain⟨rfl,rfl,rfl,hrep,hfl,hlen⟩:=he;have:=b4K hrep;subst this;have hn:xs.length=n:=by simpa using hlen
        have hown:=hr.cls.row hf';have hden:den st.H (.row j)=v:=by simp [den,l3,hf']
        rcases hown.2 with⟨rfl,rfl⟩|⟨g,cap,cur,rfl,_,hb,_,_,_,htake⟩
        · exact hstr hop e1 hden h1 h2 h3 hn (.inl rfl) hp
        · refine hstr hop e1 hden h1 h2 h3 hn (.inr ⟨g,0,rfl,fun i hi=> ?_⟩) hp;rw [R6,a2o hb,←htake,a2v,e9 (by omega)];simp
     · exact h.elim
   · exact h.elim
 · exact h.elim
theorem b5q {sy1:Sy} {ks:List Nat} (hA:AG A X.P w0 bor) (hf:a2F ks sy []=some (sy1, [])) (hs:Sim A st sy) (hr:Rel (cx X w0 bor) st a w):∃st',Sim A st' sy1∧Rel (cx X w0 bor) st' a w∧∀b,b∈bs st'.H→b∈bs st.H:=by
 have hr0:=hr.now;have hs0:=hs.now hr.cls;obtain⟨st1,_,c1,a1,s1,b1,o1,_,_⟩:=a3h (Xx:=cx X w0 bor) (r:= []) hA.a _ hr0.cls ⟨rfl,rfl,rfl⟩ hs0 (by simp only [d9]) hf;refine⟨st1,s1, ?_,fun b hb=>b1.bs b hb⟩;refine⟨hr.size,fun d s hd=> ?_,hr.dfs, ?_, ?_, ?_⟩
 · rcases o1 d s hd with e|⟨s0,h1,h2,h3⟩
   · exact .inl e
   · rcases hr0.T d s0 h1 with e|e
     · exact absurd e h2
     · right;rw [e,h3]
 · rw [a1.1];exact c1
 · rw [a1.2.1];exact u0 _
 · rw [a1.2.2];simp
theorem c1E (hA:AG A X.P w0 bor) (hP:POK X.P X.tt) {o:Oper} {Q:Exit→Act→World→Prop} {KY:Sy→Prop} (h:a9d X sy o KY)
 (hy:∀(st:St) (sy:Sy),y1 X sy o.op (a4J X true sy o.dst KY)→Sim A st sy→Rel (cx X w0 bor) st a w→o.wp X.P a w (LvY A (cx X w0 bor) st.H w KY) Q) (hs:Sim A st sy) (hr:Rel (cx X w0 bor) st a w):o.wp X.P a w (LvY A (cx X w0 bor) st.H w KY) Q:=by
 unfold a9d at h;split at h
 · exact c6n hA hP h hs hr
 · split at h
   · exact hy st sy h hs hr
   · rcases h with h|⟨sy1,hf,h⟩
     · exact hy st sy h hs hr
     · obtain⟨st1,s1,r1,b1⟩:=b5q hA hf hs hr;refine Oper.wp_mono (fun a' w' hl=> ?_) (hy st1 sy1 h s1 r1);obtain⟨st2,sy2,hK,h2,hl⟩:=hl;exact⟨st2,sy2,hK,h2,hl.rel,⟨hl.fx.os,hl.fx.tape,hl.fx.output,hl.fx.size,fun i hi hn=>hl.fx.block i hi fun c hc=>hn c (b1 c hc)⟩,fun b hb=>(hl.bs b hb).imp (b1 b) id⟩
end
mutual
theorem b8l {ok:Nat→Prop} {w:World} {R:Bool→Nat→Prop}:∀(x y:D) (s:SV),leD x y→d8 ok w R x s→d8 ok w R y s
 | .v x,y,v,h,hr=>by
  simp only [leD]at h;rcases h with rfl|⟨rfl,z,rfl⟩
  · exact hr
  · simp only [d8,Rep]at hr⊢;exact⟨_,hr.1,none,0,rfl,u0 _,by simp,by simp,rfl, .inl rfl⟩
 | .agg l,y,v,h,hr=>by
  simp only [leD]at h;obtain⟨r,rfl,h⟩:=h;simp only [d8]at hr⊢;obtain⟨a,h1,h2,h3⟩:=hr;exact⟨a,h1,a9Z l r _ h h2,b4R l r h h3⟩
 | .tup l,y,v,h,hr=>by
  simp only [leD]at h;obtain⟨r,rfl,h⟩:=h;simp only [d8]at hr⊢;rcases hr with⟨a,h1,h2⟩|⟨a,h1,h2⟩
  · exact .inl ⟨a,h1,a9Z l r _ h h2⟩
  · exact .inr ⟨a,h1,a9Z l r _ h h2⟩
 | .lst _ _ _,y,v,h,hr=>by simp only [leD]at h;subst h;exact hr
 | .ptr _ _,y,v,h,hr=>by simp only [leD]at h;subst h;exact hr
 | .mp _,y,v,h,hr=>by simp only [leD]at h;subst h;exact hr
 | .fn _ _ _,y,v,h,hr=>by simp only [leD]at h;subst h;exact hr
 | .own _ _,y,v,h,hr=>by simp only [leD]at h;subst h;exact hr
 | .ownx _ _,y,v,h,hr=>by simp only [leD]at h;subst h;exact hr
 | .row _ _,y,v,h,hr=>by simp only [leD]at h;subst h;exact hr
 | .elr _ _ _ _,y,v,h,hr=>by simp only [leD]at h;subst h;exact hr
 | .osl _ _ _ _ _,y,v,h,hr=>by simp only [leD]at h;subst h;exact hr
 | .und,y,v,h,hr=>by simp only [leD]at h;subst h;exact hr
 | .bad,y,v,h,hr=>by simp only [leD]at h;subst h;exact hr
theorem a9Z {ok:Nat→Prop} {w:World} {R:Bool→Nat→Prop}:∀(l r:List D) (v:List SV),a1P l r→d9 ok w R l v→d9 ok w R r v
 | [], [],v,_,hr=>hr
 |x::l,y::r,v::vs,h,hr=>by
  simp only [a1P]at h;simp only [d9]at hr⊢;exact⟨b8l x y v h.1 hr.1,a9Z l r vs h.2 hr.2⟩
 |_::_,_::_, [],_,hr=>by simp [d9]at hr
 | [],_::_,_,h,_=>by simp [a1P]at h
 |_::_, [],_,h,_=>by simp [a1P]at h
theorem b4R:∀(l r:List D),a1P l r→u7 l=true→u7 r=true
 | [], [],_,_=>rfl
 |x::l,y::r,h,hf=>by
  simp only [a1P]at h;have h1:=u4 hf F5
  have h2:a2U y=true:=by
   have h:=h.1;cases x<;>simp [a2U]at h1<;>simp only [leD]at h
   · rcases h with rfl|⟨_,z,rfl⟩<;>rfl
   all_goals (subst h;rfl)
  simp only [u7,h2];exact b4R l r h.2 (F0 fun d hd=>u4 hf (A9 _ hd))
 | [],_::_,h,_=>by simp [a1P]at h
 |_::_, [],h,_=>by simp [a1P]at h
end
section
variable {A : Nat → Prop} {X : Cy} {w0 : World} {bor : List Nat} {st : St} {sy : Sy} {a : Act} {w : World} {Q : Exit → Act → World → Prop}
theorem b8j {ops:List Oper} {T:List (Nat×D)} {d:Nat} {x:D} (h:o4 (a7H ops T) d=some x) (hx:x≠ .bad):o4 T d=some x∧∀(T':List (Nat×SV)),u1 (a2A ops T') d=u1 T' d:=by
 induction ops with
 |nil=>exact⟨h,fun _=>rfl⟩
 |cons o l ih=>
  simp only [a7H]at h;split at h
  · rename_i d' ha hd;simp only [o4]at h;cases hb:Nat.beq d' d with
    |true=>rw [hb]at h;cases h;exact absurd rfl hx
    |false=>
     rw [hb]at h;obtain⟨h1,h2⟩:=ih h;refine⟨h1,fun T'=> ?_⟩;simp only [a2A,ha,hd,u1,hb];exact h2 T'
  · rename_i hno;obtain⟨h1,h2⟩:=ih h;refine⟨h1,fun T'=> ?_⟩;simp only [a2A];exact h2 T'
theorem b1W {T:List (Nat×D)} {H:Hy} {nk:Nat} {T':List (Nat×SV)} {H':Hp} {nk' lo:Nat} {ws:World} {iv:List (Nat×Nat)} {ops:List Oper} (hs:Sim A ⟨T',H',nk',ws,lo,iv⟩ ⟨T,H,nk⟩):
 Sim A ⟨a2A ops T',H',nk',ws,ws.heap.size, []⟩ ⟨a7H ops T,H,nk⟩:=by
 have hok:∀b,okS A ⟨T',H',nk',ws,lo,iv⟩ b→okS A ⟨a2A ops T',H',nk',ws,ws.heap.size, []⟩ b∧ws.heap[b]?=ws.heap[b]?:=fun b hb=>⟨⟨⟨.inl hb.2.1,hb.1.2⟩,hb.2.1,hb.2.2⟩,rfl⟩
 refine⟨fun d x hx=> ?_,fun k e he=> ?_,hs.nk,fun j hj=> ?_,hs.fH⟩
 · by_cases hb:x= .bad
   · exact .inl hb
   · obtain⟨h1,h2⟩:=b8j hx hb;rcases hs.T d x h1 with h|⟨s,h3,h4⟩
     · exact .inl h
     · exact .inr ⟨s,by simp only [h2];exact h3,d8.mono hok (fun _ _ h=>h) _ _ h4⟩
 · obtain⟨e',h1,h2⟩:=hs.H k e he;exact⟨e',h1,a0I.mono hok (fun _ _ h=>h) h2⟩
 · have:=hs.fT j hj;simp only at this⊢;clear hs hok hj
   induction ops with
   |nil=>exact this
   |cons o l ih=>
    simp only [a2A];split
    · simp only [o7,ment];exact ih
    · exact ih
mutual
def fwS:D→SV→SV
 | .row k _,_=> .row k
 | .agg l,s=>match a1S s with|some cs=> .agg (fwL l cs)|none=>s
 | .tup l, .tup cs=> .tup (fwL l cs)
 | .tup l, .v (.tuple a)=> .tup (fwL l (vs a.toList))
 | .fn f x y, .fn _ a b=> .fn f (fwL x a) (fwL y b)
 | .fn f x y, .v (.func _ p q)=> .fn f (fwL x (vs p.toList)) (fwL y (vs q.toList))
 |_,s=>s
def fwL:List D→List SV→List SV
 |x::l,s::r=>fwS x s::fwL l r
 |_,_=> []
end
def fwB:List D→List SV→List SV
 | .bad::l,_::r=> .bad::fwB l r
 |x::l,s::r=>fwS x s::fwB l r
 |_,_=> []
def fwH (n:Nat) (H:Hp):Hy→Hp
 | []=> []
 |(k, .blk ds ty)::r=>(match e8 H k with|some (.blk b cs ty')=>(k, .blk b (fwB ds cs) ty')|_=>(k, .row (.slice none 0 0) 0 [] 0 ty))::fwH n H r
 |(k, .row z m l ty)::r=>(match Nat.blt k n,e8 H k with|true,some (.row v m' xs z' ty')=>(k, .row v m' xs z' ty')|_,_=>(k, .row (.slice none 0 0) 0 [] z ty))::fwH n H r
 |(k, .mp es ty)::r=>(match e8 H k with|some (.mp b es' ty')=>(k, .mp b es' ty')|_=>(k, .row (.slice none 0 0) 0 [] 0 0))::fwH n H r
def fwT (T:List (Nat×SV)):List (Nat×D)→List (Nat×SV)
 | []=> []
 |(d,x)::r=>(match u1 T d with|some s=>(d,fwS x s)|none=>(d, .bad))::fwT T r
def a2w (n:Nat):Hy→List (Option Nat)
 | []=> []
 |(k, .blk _ _)::r=>some k::a2w n r
 |(k, .row _ _ _ _)::r=>(match Nat.blt k n with|true=>some k|false=>none)::a2w n r
 |(k, .mp _ _)::r=>some k::a2w n r
structure b9c (ok:Nat→Prop) (w:World) (n:Nat) (ks:List Nat) (R R':Bool→Nat→Prop) (H H':Hp):Prop where
 R:∀q j,F2 j ks=true→j<n→R q j→R' q j
 old:∀j,F2 j ks=true→j<n→bOf H' j=bOf H j∧l3 H' j=l3 H j
 new:∀j,F2 j ks=true→¬j<n→R' true j∧l3 H' j= .slice none 0 0
theorem Q4 {a b:Nat}:Nat.blt a b=true↔a<b:=by simp [a1h]
mutual
theorem b8a {ok:Nat→Prop} {w:World} {n:Nat} {ks:List Nat} {R R':Bool→Nat→Prop} {H H':Hp} (hz:b9c ok w n ks R R' H H'):∀(x:D) (s:SV),d8 ok w R (a0i n x) s→inK n ks x=true→d8 ok w R' x (fwS x s)∧den H' (fwS x s)=den H s
 | .v x,s,h,_=>by simp only [a0i]at h;simp only [fwS];refine⟨h, ?_⟩;simp only [d8]at h;rw [h.1];rfl
 | .lst z m l,s,h,_=>by simp only [a0i]at h;simp only [fwS];refine⟨h, ?_⟩;simp only [d8]at h;obtain⟨y,rfl,_⟩:=h;rfl
 | .ptr l o,s,h,_=>by simp only [a0i]at h;simp only [fwS];refine⟨h, ?_⟩;simp only [d8]at h;obtain⟨y,rfl,_⟩:=h;rfl
 | .mp l,s,h,_=>by simp only [a0i]at h;simp only [fwS];refine⟨h, ?_⟩;simp only [d8]at h;obtain⟨y,rfl,_⟩:=h;rfl
 | .und,s,h,_=>by simp only [a0i]at h;simp only [fwS];refine⟨h, ?_⟩;simp only [d8]at h;rw [h];rfl
 | .bad,s,h,hk=>by simp [inK]at hk
 | .own j o,s,h,hk=>by
  simp only [a0i,d8]at h;simp only [inK]at hk;obtain⟨rfl,h⟩:=h;split at hk
  · rename_i hb;have hj:=Q4.1 hb;simp only [fwS,d8];exact⟨⟨trivial,hz.R _ _ hk hj h⟩,by simp only [den,(hz.old j hk hj).1]⟩
  · cases hk
 | .ownx j o,s,h,hk=>by
  simp only [a0i,d8]at h;simp only [inK]at hk;obtain⟨rfl,h⟩:=h;split at hk
  · rename_i hb;have hj:=Q4.1 hb;simp only [fwS,d8];exact⟨⟨trivial,hz.R _ _ hk hj h⟩,by simp only [den,(hz.old j hk hj).1]⟩
  · cases hk
 | .elr j z i o,s,h,hk=>by
  simp only [a0i,d8]at h;simp only [inK]at hk;obtain⟨rfl,h⟩:=h;split at hk
  · rename_i hb;have hj:=Q4.1 hb;simp only [fwS,d8];exact⟨⟨trivial,hz.R _ _ hk hj h⟩,by simp only [den,(hz.old j hk hj).1]⟩
  · cases hk
 | .osl j o z m c,s,h,hk=>by
  simp only [a0i,d8]at h;simp only [inK]at hk;obtain⟨rfl,h⟩:=h;split at hk
  · rename_i hb;have hj:=Q4.1 hb;simp only [fwS,d8];exact⟨⟨trivial,hz.R _ _ hk hj h⟩,by simp only [den,(hz.old j hk hj).1,(hz.old j hk hj).2]⟩
  · cases hk
 | .row j z,s,h,hk=>by
  simp only [inK]at hk;simp only [a0i]at h;simp only [fwS,d8];cases hb:Nat.blt j n with
  |true=>
   rw [hb]at h;simp only [d8]at h;obtain⟨rfl,h⟩:=h;have hj:=Q4.1 hb;exact⟨⟨trivial,hz.R _ _ hk hj h⟩,by simp only [den,(hz.old j hk hj).2]⟩
  |false=>
   rw [hb]at h;have hj:¬j<n:=fun h=>by rw [Q4.2 h]at hb;cases hb
   have:=h.sc;subst this;exact⟨⟨trivial,(hz.new j hk hj).1⟩,by simp only [den,(hz.new j hk hj).2]⟩
 | .agg l,s,h,hk=>by
  simp only [a0i,d8]at h;simp only [inK]at hk;obtain⟨cs,h1,h2,h3⟩:=h;obtain⟨g1,g2⟩:=a2Q hz l cs h2 hk;simp only [fwS,h1,d8];refine⟨⟨_,rfl,g1, ?_⟩, ?_⟩
  · refine F0 fun d hd=> ?_
    have:∀l:List D,u7 (a0s n l)=true→∀d∈l,a2U d=true:=by
     intro l
     induction l with
     |nil=>simp
     |cons x l ih=>
      intro hf d hd;have h0:a2U (a0i n x)=true:=u4 hf F5;rcases o5.1 hd with rfl|hd
      · cases d<;>simp [a0i,a2U]at h0⊢
      · exact ih (F0 fun d hd=>u4 hf (A9 _ hd)) d hd
    exact this l h3 d hd
  · cases s<;>simp [a1S]at h1
    · rename_i y;cases y<;>simp at h1;subst h1;rw [C8]at g2;simp [den,g2]
    · subst h1;simp [den,g2]
 | .tup l,s,h,hk=>by
  simp only [a0i,d8]at h;simp only [inK]at hk;rcases h with⟨cs,rfl,h2⟩|⟨a,rfl,h2⟩
  · obtain⟨g1,g2⟩:=a2Q hz l cs h2 hk;simp only [fwS,d8];exact⟨.inl ⟨_,rfl,g1⟩,by simp [den,g2]⟩
  · obtain⟨g1,g2⟩:=a2Q hz l _ h2 hk;rw [C8]at g2;simp only [fwS,d8];exact⟨.inl ⟨_,rfl,g1⟩,by simp [den,g2]⟩
 | .fn f x y,s,h,hk=>by
  simp only [a0i,d8]at h;simp only [inK]at hk;split at hk
  · rename_i hx;rcases h with⟨p,q,rfl,h2,h3⟩|⟨p,q,rfl,h2,h3⟩
    · obtain⟨g1,g2⟩:=a2Q hz x p h2 hx;obtain⟨g3,g4⟩:=a2Q hz y q h3 hk;simp only [fwS,d8];exact⟨.inl ⟨_,_,rfl,g1,g3⟩,by simp [den,g2,g4]⟩
    · obtain⟨g1,g2⟩:=a2Q hz x _ h2 hx;obtain⟨g3,g4⟩:=a2Q hz y _ h3 hk;rw [C8]at g2 g4;simp only [fwS,d8];exact⟨.inl ⟨_,_,rfl,g1,g3⟩,by simp [den,g2,g4]⟩
  · cases hk
theorem a2Q {ok:Nat→Prop} {w:World} {n:Nat} {ks:List Nat} {R R':Bool→Nat→Prop} {H H':Hp} (hz:b9c ok w n ks R R' H H'):∀(l:List D) (r:List SV),d9 ok w R (a0s n l) r→b8V n ks l=true→d9 ok w R' l (fwL l r)∧l4 H' (fwL l r)=l4 H r
 | [], [],_,_=>⟨trivial,rfl⟩
 |x::l,s::r,h,hk=>by
  simp only [a0s,d9]at h;simp only [b8V]at hk;split at hk
  · rename_i hx;obtain⟨g1,g2⟩:=b8a hz x s h.1 hx;obtain⟨g3,g4⟩:=a2Q hz l r h.2 hk;simp only [fwL];exact⟨⟨g1,g3⟩,by simp [l4,g2,g4]⟩
  · cases hk
 | [],_::_,h,_=>by simp [a0s,d9]at h
 |_::_, [],h,_=>by simp [a0s,d9]at h
end
def a8H (ok:Nat→Prop) (w:World) (R:Bool→Nat→Prop):List D→List SV→Prop
 | [], []=>True
 | .bad::l,_::r=>a8H ok w R l r
 |x::l,s::r=>d8 ok w R x s∧a8H ok w R l r
 |_,_=>False
theorem b4J {ok:Nat→Prop} {w:World} {R:Bool→Nat→Prop}:∀(l r:List D) (v:List SV),a7O l r→d9 ok w R l v→a8H ok w R r v
 | [], [], [],_,_=>trivial
 |x::l,y::r,v::vs,h,hr=>by
  simp only [d9]at hr;cases y<;>simp only [a7O]at h<;>simp only [a8H]
  case bad=>exact b4J l r vs h hr.2
  all_goals exact⟨b8l x _ v h.1 hr.1,b4J l r vs h.2 hr.2⟩
 |_::_, [],_,h,_=>by simp [a7O]at h
 | [],y::_,_,h,_=>by cases y<;>simp [a7O]at h
 |_::_,_::_, [],_,hr=>by simp [d9]at hr
 | [], [],_::_,_,hr=>by simp [d9]at hr
theorem a7S {ok:Nat→Prop} {w:World} {n:Nat} {ks:List Nat} {R R':Bool→Nat→Prop} {H H':Hp} (hz:b9c ok w n ks R R' H H'):∀(l:List D) (r:List SV),a8H ok w R (a0s n l) r→b5j n ks l=true→d9 ok w R' l (fwB l r)∧b5T H H' r (fwB l r)
 | [], [],_,_=>⟨trivial,trivial⟩
 | [],_::_,h,_=>by simp [a0s,a8H]at h
 |x::l, [],h,_=>by
  simp only [a0s]at h;cases hx:a0i n x<;>rw [hx]at h<;>simp [a8H]at h
 |x::l,s::r,h,hk=>by
  have gen:x≠ .bad→(a8H ok w R (a0i n x::a0s n l) (s::r)→d8 ok w R (a0i n x) s∧a8H ok w R (a0s n l) r)→(inK n ks x=true∧a2U x=true∧b5j n ks l=true)→fwB (x::l) (s::r)=fwS x s::fwB l r→d9 ok w R' (x::l) (fwB (x::l) (s::r))∧b5T H H' (s::r) (fwB (x::l) (s::r)):=by
   intro hb h1 h2 h3;obtain⟨g1,g2⟩:=h1 h;obtain⟨k1,k2,k3⟩:=h2;obtain⟨q1,q2⟩:=b8a hz x s g1 k1;obtain⟨q3,q4⟩:=a7S hz l r g2 k3;rw [h3];refine⟨⟨q1,q3⟩, .inr ⟨d8.ne g1 ?_,q2.symm⟩,q4⟩;cases x<;>simp only [a0i]<;>first|exact absurd rfl hb|(split<;>simp)|simp
  cases x
  case bad=>
   simp only [a0s,a0i,a8H]at h;simp only [b5j]at hk;obtain⟨q3,q4⟩:=a7S hz l r h hk;simp only [fwB];exact⟨⟨by simp only [d8],q3⟩, .inl rfl,q4⟩
  case row k z=>
   refine gen (by simp) (fun h=> ?_) ?_ rfl
   · simp only [a0i]at h⊢;split at h<;>simpa only [a8H]using h
   · simp only [b5j]at hk;split at hk
     · rename_i h1 h2;exact⟨h1,h2,hk⟩
     · cases hk
  all_goals
   refine gen (by simp) (fun h=>by simpa only [a0i,a8H]using h) ?_ rfl
   simp only [b5j]at hk;split at hk
   · rename_i h1 h2;exact⟨h1,h2,hk⟩
   · cases hk
end
theorem a3E (a b k:Nat):(k=a∧swN a b k=b)∨(k≠a∧k=b∧swN a b k=a)∨(k≠a∧k≠b∧swN a b k=k):=by
 unfold swN;by_cases h:k=a
 · subst h;left;simp
 · by_cases h2:k=b
   · subst h2;right;left;simp [J2 h,h]
   · right;right;simp [J2 h,J2 h2,h,h2]
theorem a1Q (a b k:Nat):swN a b (swN a b k)=k:=by
 rcases a3E a b k with⟨h,e⟩|⟨h,h2,e⟩|⟨h,h2,e⟩<;>rw [e]
 · rcases a3E a b b with⟨g,e2⟩|⟨g,g2,e2⟩|⟨g,g2,e2⟩<;>rw [e2]
   · rw [h,g]
   · exact h.symm
   · exact absurd rfl g2
 · rcases a3E a b a with⟨g,e2⟩|⟨g,g2,e2⟩|⟨g,g2,e2⟩<;>rw [e2]
   · exact h2.symm
   · exact absurd rfl g
   · exact absurd rfl g
 · exact e
theorem b9B {a b j k:Nat} (h:swN a b j=swN a b k):j=k:=by rw [←a1Q a b j,h,a1Q]
theorem a5G (a b j k:Nat):Nat.beq (swN a b j) (swN a b k)=Nat.beq j k:=by
 by_cases h:j=k
 · subst h;simp
 · rw [J2 h,J2 fun e=>h (b9B e)]
theorem c3q {a b k m:Nat} (ha:a<m) (hb:b<m):swN a b k<m↔k<m:=by
 rcases a3E a b k with⟨h,e⟩|⟨h,h2,e⟩|⟨h,h2,e⟩<;>rw [e]<;>omega
theorem c2b {a b k m:Nat} (ha:a<m) (hb:b<m) (hk:m≤k):swN a b k=k:=by
 rcases a3E a b k with⟨h,e⟩|⟨h,h2,e⟩|⟨h,h2,e⟩<;>first|omega|exact e
mutual
theorem b9z (a b:Nat):∀x:D,swD a b (swD a b x)=x
 | .own k o=>by simp only [swD,a1Q]
 | .ownx k o=>by simp only [swD,a1Q]
 | .row k z=>by simp only [swD,a1Q]
 | .elr k z i o=>by simp only [swD,a1Q]
 | .osl k o z n c=>by simp only [swD,a1Q]
 | .agg l=>by simp only [swD,a3p]
 | .tup l=>by simp only [swD,a3p]
 | .fn f p q=>by simp only [swD,a3p]
 | .v x=>rfl
 | .lst z n l=>rfl
 | .ptr l o=>rfl
 | .mp l=>rfl
 | .und=>rfl
 | .bad=>rfl
theorem a3p (a b:Nat):∀l:List D,a8J a b (a8J a b l)=l
 | []=>rfl
 |x::l=>by simp only [a8J,b9z,a3p]
end
theorem b3H (a b:Nat):∀T,b5G a b (b5G a b T)=T
 | []=>rfl
 |(d,x)::T=>by simp only [b5G,b9z,b3H]
theorem b3D (a b:Nat):∀H,b5N a b (b5N a b H)=H
 | []=>rfl
 |(k,e)::H=>by cases e<;>simp only [b5N,swE,a1Q,a3p,b3D]
mutual
def swS (a b:Nat):SV→SV
 | .own k o=> .own (swN a b k) o
 | .ownx k o=> .ownx (swN a b k) o
 | .osl k o n c=> .osl (swN a b k) o n c
 | .row k=> .row (swN a b k)
 | .agg l=> .agg (a3B a b l)
 | .tup l=> .tup (a3B a b l)
 | .fn f p q=> .fn f (a3B a b p) (a3B a b q)
 | .v x=> .v x
 | .bad=> .bad
def a3B (a b:Nat):List SV→List SV
 | []=> []
 |x::l=>swS a b x::a3B a b l
end
def b2L (a b:Nat):Ent→Ent
 | .blk n cs ty=> .blk n (a3B a b cs) ty
 | .row v n xs sz ty=> .row v n xs sz ty
 | .mp n es ty=> .mp n es ty
def swT (a b:Nat):List (Nat×SV)→List (Nat×SV)
 | []=> []
 |(d,x)::T=>(d,swS a b x)::swT a b T
def swH (a b:Nat):Hp→Hp
 | []=> []
 |(k,e)::H=>(swN a b k,b2L a b e)::swH a b H
theorem b0i (a b:Nat):∀l,a3B a b (vs l)=vs l
 | []=>rfl
 |x::l=>by simp only [vs,a3B,swS,b0i]
section
variable {a b : Nat} {H : Hp}
theorem a5A (k:Nat):∀H,e8 (swH a b H) (swN a b k)=(e8 H k).map (b2L a b)
 | []=>rfl
 |(j,e)::H=>by
  simp only [swH,e8,a5G];cases Nat.beq j k with
  |true=>rfl
  |false=>exact a5A k H
theorem b6C (k:Nat):∀H:Hy,j7 (b5N a b H) (swN a b k)=(j7 H k).map (swE a b)
 | []=>rfl
 |(j,e)::H=>by
  simp only [b5N,j7,a5G];cases Nat.beq j k with
  |true=>rfl
  |false=>exact b6C k H
theorem b4P (d:Nat):∀T,u1 (swT a b T) d=(u1 T d).map (swS a b)
 | []=>rfl
 |(j,e)::T=>by
  simp only [swT,u1];cases Nat.beq j d with
  |true=>rfl
  |false=>exact b4P d T
theorem b6S (d:Nat):∀T,o4 (b5G a b T) d=(o4 T d).map (swD a b)
 | []=>rfl
 |(j,e)::T=>by
  simp only [b5G,o4];cases Nat.beq j d with
  |true=>rfl
  |false=>exact b6S d T
theorem b8M (k:Nat):bOf (swH a b H) (swN a b k)=bOf H k:=by
 unfold bOf;rw [a5A];cases e8 H k with
 |none=>rfl
 |some e=>cases e<;>rfl
theorem b2Y (k:Nat):l3 (swH a b H) (swN a b k)=l3 H k:=by
 unfold l3;rw [a5A];cases e8 H k with
 |none=>rfl
 |some e=>cases e<;>rfl
mutual
theorem b8N:∀s:SV,den (swH a b H) (swS a b s)=den H s
 | .own k o=>by simp only [swS,den,b8M]
 | .ownx k o=>by simp only [swS,den,b8M]
 | .osl k o n c=>by simp only [swS,den,b8M,b2Y]
 | .row k=>by simp only [swS,den,b2Y]
 | .agg l=>by simp only [swS,den,a7c l]
 | .tup l=>by simp only [swS,den,a7c l]
 | .fn f p q=>by simp only [swS,den,a7c p,a7c q]
 | .v x=>rfl
 | .bad=>rfl
theorem a7c:∀l:List SV,l4 (swH a b H) (a3B a b l)=l4 H l
 | []=>rfl
 |x::l=>by simp only [a3B,l4,b8N x,a7c l]
end
theorem b2O:∀ {l:List SV} {xs:List Value},l6 H l xs→l6 (swH a b H) (a3B a b l) xs
 | [], [],_=>trivial
 |s::l,x::r,h=>by
  simp only [l6,a3B]at h⊢;refine⟨?_,b2O h.2⟩;rcases h.1 with h|h
  · left;rw [h];rfl
  · right;rw [h,b8N]
 | [],_::_,h=>by simp [l6]at h
 |_::_, [],h=>by simp [l6]at h
theorem b3z:∀H,bs (swH a b H)=bs H
 | []=>rfl
 |(k,e)::H=>by cases e<;>simp only [swH,bs,b2L,bsE,b3z H]
theorem b9g:∀H,(swH a b H).map (·.1)=(H.map (·.1)).map (swN a b)
 | []=>rfl
 |(k,e)::H=>by simp only [swH,C4,b9g H]
theorem b8I:∀ {H:Hp} {k:Nat} {e:Ent},(k,e)∈swH a b H→∃k0 e0,(k0,e0)∈H∧k=swN a b k0∧e=b2L a b e0
 | [],_,_,h=>by simp [swH]at h
 |(j,f)::H,k,e,h=>by
  simp only [swH,o5,a2a]at h;rcases h with⟨rfl,rfl⟩|h
  · exact⟨j,f,F5,rfl,rfl⟩
  · obtain⟨k0,e0,h1,h2⟩:=b8I h;exact⟨k0,e0,A9 _ h1,h2⟩
mutual
theorem b9K (j:Nat):∀s:SV,ment (swN a b j) (swS a b s)=ment j s
 | .own k o=>by simp only [swS,ment,a5G]
 | .ownx k o=>by simp only [swS,ment,a5G]
 | .osl k o n c=>by simp only [swS,ment,a5G]
 | .row k=>by simp only [swS,ment,a5G]
 | .agg l=>by simp only [swS,ment,a3q j l]
 | .tup l=>by simp only [swS,ment,a3q j l]
 | .fn f p q=>by simp only [swS,ment,a3q j p,a3q j q]
 | .v x=>rfl
 | .bad=>rfl
theorem a3q (j:Nat):∀l:List SV,C9 (swN a b j) (a3B a b l)=C9 j l
 | []=>rfl
 |x::l=>by simp only [a3B,C9,b9K j x,a3q j l]
end
theorem b2P (j:Nat):∀T,o7 (swN a b j) (swT a b T)=o7 j T
 | []=>rfl
 |(d,s)::T=>by simp only [swT,o7,b9K,b2P j T]
theorem a5T (j:Nat):∀H,u3 (swN a b j) (swH a b H)=u3 j H
 | []=>rfl
 |(k, .blk n cs ty)::H=>by simp only [swH,b2L,u3,a3q,a5T j H]
 |(k, .row v n xs sz ty)::H=>by simp only [swH,b2L,u3,a5T j H]
 |(k, .mp n es ty)::H=>by simp only [swH,b2L,u3,a5T j H]
end
mutual
theorem b9a {ok:Nat→Prop} {w:World} {R R':Bool→Nat→Prop} {a b:Nat} (hR:∀q k,R q k→R' q (swN a b k)):∀(d:D) (s:SV),d8 ok w R d s→d8 ok w R' (swD a b d) (swS a b s)
 | .v x,s,h=>by simp only [d8]at h;obtain⟨rfl,h⟩:=h;simp only [swD,swS,d8];exact⟨trivial,h⟩
 | .agg l,s,h=>by
  simp only [d8]at h;obtain⟨cs,h1,h2,h3⟩:=h;simp only [swD,d8];refine⟨a3B a b cs, ?_,a0k hR l cs h2,b8Y l h3⟩;unfold a1S at h1⊢;cases s with
  |agg l'=>simp only [M9]at h1;subst h1;rfl
  |v x=>cases x<;>first|(simp only [M9]at h1;subst h1;simp only [swS,b0i])|cases h1
  |_=>cases h1
 | .lst z n l,s,h=>by simp only [d8]at h;obtain⟨y,rfl,h⟩:=h;simp only [swD,swS,d8];exact⟨y,rfl,h⟩
 | .ptr l o,s,h=>by simp only [d8]at h;obtain⟨y,rfl,h⟩:=h;simp only [swD,swS,d8];exact⟨y,rfl,h⟩
 | .mp l,s,h=>by simp only [d8]at h;obtain⟨y,rfl,h⟩:=h;simp only [swD,swS,d8];exact⟨y,rfl,h⟩
 | .own k o,s,h=>by simp only [d8]at h;obtain⟨rfl,h⟩:=h;simp only [swD,swS,d8];exact⟨trivial,hR _ _ h⟩
 | .ownx k o,s,h=>by simp only [d8]at h;obtain⟨rfl,h⟩:=h;simp only [swD,swS,d8];exact⟨trivial,hR _ _ h⟩
 | .row k z,s,h=>by simp only [d8]at h;obtain⟨rfl,h⟩:=h;simp only [swD,swS,d8];exact⟨trivial,hR _ _ h⟩
 | .elr k z i o,s,h=>by simp only [d8]at h;obtain⟨rfl,h⟩:=h;simp only [swD,swS,d8];exact⟨trivial,hR _ _ h⟩
 | .osl k o z n c,s,h=>by simp only [d8]at h;obtain⟨rfl,h⟩:=h;simp only [swD,swS,d8];exact⟨trivial,hR _ _ h⟩
 | .tup l,s,h=>by
  simp only [d8]at h;simp only [swD,d8];rcases h with⟨cs,rfl,h⟩|⟨x,rfl,h⟩
  · exact .inl ⟨a3B a b cs,by simp only [swS],a0k hR l cs h⟩
  · have:=a0k hR l _ h;rw [b0i]at this;exact .inr ⟨x,by simp only [swS],this⟩
 | .fn f p q,s,h=>by
  simp only [d8]at h;simp only [swD,d8];rcases h with⟨x,y,rfl,h1,h2⟩|⟨x,y,rfl,h1,h2⟩
  · exact .inl ⟨a3B a b x,a3B a b y,by simp only [swS],a0k hR p x h1,a0k hR q y h2⟩
  · have h1:=a0k hR p _ h1;have h2:=a0k hR q _ h2;rw [b0i]at h1 h2;exact .inr ⟨x,y,by simp only [swS],h1,h2⟩
 | .und,s,h=>by simp only [d8]at h;subst h;simp only [swD,swS,d8]
 | .bad,s,h=>by simp only [d8]at h;subst h;simp only [swD,swS,d8]
theorem a0k {ok:Nat→Prop} {w:World} {R R':Bool→Nat→Prop} {a b:Nat} (hR:∀q k,R q k→R' q (swN a b k)):∀(l:List D) (r:List SV),d9 ok w R l r→d9 ok w R' (a8J a b l) (a3B a b r)
 | [], [],_=>trivial
 |d::l,y::r,h=>by
  simp only [d9]at h;simp only [a8J,a3B,d9];exact⟨b9a hR d y h.1,a0k hR l r h.2⟩
 | [],_::_,h=>by simp [d9]at h
 |_::_, [],h=>by simp [d9]at h
theorem b8Y {a b:Nat}:∀l:List D,u7 l=true→u7 (a8J a b l)=true
 | [],_=>rfl
 |x::l,h=>by
  cases x<;>simp only [a8J,swD,u7,a2U]at h⊢<;>first|exact b8Y l h|exact h
end
def a4j (a b:Nat) (st:St):St:=⟨swT a b st.T,swH a b st.H,st.nk,st.w,st.lo,st.iv⟩
theorem c7c {A:Nat→Prop} {X:Cx} {st:St} {sy:Sy} {ac:Act} {w:World} {a b:Nat} (ha:a<st.nk) (hb:b<st.nk) (hs:Sim A st sy) (hr:Rel X st ac w):
 Sim A (a4j a b st) ⟨b5G a b sy.T,b5N a b sy.H,sy.nk⟩∧Rel X (a4j a b st) ac w:=by
 have hok:okS A (a4j a b st)=okS A st:=by
  funext c;simp only [okS,a4j,b6I,b3z]
 have hkey:∀q k,u6 st q k→u6 (a4j a b st) q (swN a b k):=by
  intro q k h;refine⟨(c3q ha hb).2 h.1,fun hq=> ?_⟩;obtain⟨e,h1,h2⟩:=h.2 hq;refine⟨b2L a b e,by simp only [a4j];rw [a5A,h1];rfl, ?_⟩;cases e<;>exact h2
 refine⟨⟨fun d x hx=> ?_,fun k e he=> ?_,hs.nk,fun j hj=> ?_,fun j hj=> ?_⟩,⟨hr.size,fun d s hd=> ?_,hr.dfs, ?_,hr.lo,hr.iv⟩⟩
 · simp only [b6S]at hx;cases hl:o4 sy.T d with
   |none=>rw [hl]at hx;cases hx
   |some y=>
    rw [hl]at hx;cases hx;rcases hs.T d y hl with rfl|⟨s,h1,h2⟩
    · left;simp only [swD]
    · right;refine⟨swS a b s,by simp only [a4j];rw [b4P,h1];rfl, ?_⟩;rw [hok];exact b9a hkey _ _ h2
 · obtain⟨k,rfl⟩:∃j,k=swN a b j:=⟨swN a b k,(a1Q _ _ _).symm⟩;simp only [b6C]at he;cases hl:j7 sy.H k with
   |none=>rw [hl]at he;cases he
   |some y=>
    rw [hl]at he;cases he;obtain⟨e',h1,h2⟩:=hs.H k y hl;refine⟨b2L a b e',by simp only [a4j];rw [a5A,h1];rfl, ?_⟩;rw [hok];cases y<;>cases e'<;>simp only [a0I,swE,b2L]at h2⊢
    · exact⟨h2.1,a0k hkey _ _ h2.2⟩
    · exact h2
    · exact h2
 · simp only [a4j]at hj⊢;rw [←c2b ha hb hj,b2P];exact hs.fT j hj
 · simp only [a4j]at hj⊢;rw [←c2b ha hb hj,a5T];exact hs.fH j hj
 · simp only [a4j,b4P]at hd;cases hl:u1 st.T d with
   |none=>rw [hl]at hd;cases hd
   |some y=>
    rw [hl]at hd;cases hd;rcases hr.T d y hl with rfl|h
    · left;simp only [swS]
    · right;rw [h];simp only [a4j,b8N]
 · have hc:=hr.cls;refine⟨by simp only [a4j,b3z];exact hc.fx,hc.fx0,fun k e hm=> ?_,by simp only [a4j,b3z];exact hc.nd,by simp only [a4j,b3z];exact hc.lb, ?_,fun k e hm=> ?_⟩
   · simp only [a4j]at hm⊢;obtain⟨k0,e0,h1,rfl,rfl⟩:=b8I hm;have h:=hc.own k0 e0 h1;cases e0 with
     |blk n cs ty=>obtain⟨xs,g1,g2⟩:=h;exact⟨xs,b2O g1,g2⟩
     |row=>exact h
     |mp=>exact h
   · simp only [a4j,b9g];exact List.pairwise_map.2 (hc.keys.imp fun h e=>h (b9B e))
   · simp only [a4j]at hm⊢;obtain⟨k0,e0,h1,rfl,rfl⟩:=b8I hm;exact(c3q ha hb).2 (hc.lt k0 e0 h1)
section
variable {A : Nat → Prop} {X : Cy} {w0 : World} {bor : List Nat} {st : St} {sy : Sy} {a : Act} {w : World} {Q : Exit → Act → World → Prop}
theorem b0f {n:Nat} {H:Hp}:∀(Hd:Hy),(fwH n H Hd).map (·.1)=P7 Hd
 | []=>rfl
 |(k, .blk ds ty)::r=>by
  simp only [fwH,P7,C4,b0f r];congr 1;split<;>rfl
 |(k, .row z m l ty)::r=>by
  simp only [fwH,P7,C4,b0f r];congr 1;split<;>rfl
 |(k, .mp es ty)::r=>by
  simp only [fwH,P7,C4,b0f r];congr 1;split<;>rfl
theorem a3y {k:Nat}:∀ {H:Hy},F2 k (P7 H)=true→∃e,j7 H k=some e
 | [],h=>by simp [P7,F2]at h
 |(j,e)::r,h=>by
  simp only [P7,F2]at h;simp only [j7];cases hb:Nat.beq j k with
  |true=>exact⟨e,rfl⟩
  |false=>
   rw [hb]at h;exact a3y h
theorem a9k {n:Nat} {H:Hp} {k b:Nat} {cs:List SV} {ty ty0:TypeId} {ds:List D} (hf:e8 H k=some (.blk b cs ty)):∀ {Hd:Hy},j7 Hd k=some (.blk ds ty0)→e8 (fwH n H Hd) k=some (.blk b (fwB ds cs) ty)
 | [],h=>by simp [j7]at h
 |(j,e)::r,h=>by
  simp only [j7]at h;cases hb:Nat.beq j k with
  |true=>
   rw [hb]at h;cases h;have:=r6 hb;subst this;simp only [fwH,hf,e8,hb]
  |false=>
   rw [hb]at h;have ih:=a9k hf (n:=n) h;cases e with
   |blk d t=>
    simp only [fwH];split<;>simp only [e8,hb]<;>exact ih
   |row z m l t=>
    simp only [fwH];split<;>simp only [e8,hb]<;>exact ih
   |mp es t=>
    simp only [fwH];split<;>simp only [e8,hb]<;>exact ih
theorem a9F {n:Nat} {H:Hp} {k z m z' m':Nat} {l:List D} {v:Value} {xs:List Value} {ty ty':TypeId} (hb0:Nat.blt k n=true) (hf:e8 H k=some (.row v m' xs z' ty')):∀ {Hd:Hy},j7 Hd k=some (.row z m l ty)→e8 (fwH n H Hd) k=some (.row v m' xs z' ty')
 | [],h=>by simp [j7]at h
 |(j,e)::r,h=>by
  simp only [j7]at h;cases hb:Nat.beq j k with
  |true=>
   rw [hb]at h;cases h;have:=r6 hb;subst this;simp only [fwH,hf,hb0,e8,hb]
  |false=>
   rw [hb]at h;have ih:=a9F hb0 hf (n:=n) h;cases e with
   |blk d t=>
    simp only [fwH];split<;>simp only [e8,hb]<;>exact ih
   |row z m l t=>
    simp only [fwH];split<;>simp only [e8,hb]<;>exact ih
   |mp es t=>
    simp only [fwH];split<;>simp only [e8,hb]<;>exact ih
theorem b1e {n:Nat} {H:Hp} {k b:Nat} {es es0:List (Value×Value)} {ty ty':MTy} (hf:e8 H k=some (.mp b es0 ty')):∀ {Hd:Hy},j7 Hd k=some (.mp es ty)→e8 (fwH n H Hd) k=some (.mp b es0 ty')
 | [],h=>by simp [j7]at h
 |(j,e)::r,h=>by
  simp only [j7]at h;cases hb:Nat.beq j k with
  |true=>
   rw [hb]at h;cases h;have:=r6 hb;subst this;simp only [fwH,hf,e8,hb]
  |false=>
   rw [hb]at h;have ih:=b1e hf (n:=n) h;cases e with
   |blk d t=>
    simp only [fwH];split<;>simp only [e8,hb]<;>exact ih
   |row z m l t=>
    simp only [fwH];split<;>simp only [e8,hb]<;>exact ih
   |mp es t=>
    simp only [fwH];split<;>simp only [e8,hb]<;>exact ih
theorem a9m {n:Nat} {H:Hp} {k z m:Nat} {l:List D} {ty:TypeId} (hb0:Nat.blt k n=false):∀ {Hd:Hy},j7 Hd k=some (.row z m l ty)→e8 (fwH n H Hd) k=some (.row (.slice none 0 0) 0 [] z ty)
 | [],h=>by simp [j7]at h
 |(j,e)::r,h=>by
  simp only [j7]at h;cases hb:Nat.beq j k with
  |true=>
   rw [hb]at h;cases h;have:=r6 hb;subst this;simp only [fwH,hb0,e8,hb]
  |false=>
   rw [hb]at h;have ih:=a9m hb0 (n:=n) (H:=H) h;cases e with
   |blk d t=>
    simp only [fwH];split<;>simp only [e8,hb]<;>exact ih
   |row z m l t=>
    simp only [fwH];split<;>simp only [e8,hb]<;>exact ih
   |mp es t=>
    simp only [fwH];split<;>simp only [e8,hb]<;>exact ih
theorem a6O {n:Nat} {H:Hy} {k:Nat} {e:E}:∀ {Hd:Hy},a9r n H Hd→j7 Hd k=some e→b3K n H k e
 | [],_,h=>by simp [j7]at h
 |(j,e')::r,hs,h=>by
  simp only [a9r]at hs;simp only [j7]at h;cases hb:Nat.beq j k with
  |true=>rw [hb]at h;cases h;have:=r6 hb;subst this;exact hs.1
  |false=>rw [hb]at h;exact a6O hs.2 h
theorem a0B {n:Nat} {ks:List Nat} {k:Nat} {ds:List D} {ty:TypeId}:∀ {Hd:Hy},a9T n ks Hd=true→j7 Hd k=some (.blk ds ty)→k<n∧b5j n ks ds=true
 | [],_,h=>by simp [j7]at h
 |(j, .blk d t)::r,hs,h=>by
  simp only [a9T]at hs;split at hs
  · rename_i h1 h2;simp only [j7]at h;cases hb:Nat.beq j k with
    |true=>rw [hb]at h;cases h;have:=r6 hb;subst this;exact⟨Q4.1 h1,h2⟩
    |false=>rw [hb]at h;exact a0B hs h
  · cases hs
 |(j, .row z m l t)::r,hs,h=>by
  simp only [a9T]at hs;simp only [j7]at h;cases hb:Nat.beq j k with
  |true=>rw [hb]at h;cases h
  |false=>rw [hb]at h;exact a0B hs h
 |(j, .mp es t)::r,hs,h=>by
  simp only [a9T]at hs;split at hs
  · simp only [j7]at h;cases hb:Nat.beq j k with
    |true=>rw [hb]at h;cases h
    |false=>rw [hb]at h;exact a0B hs h
  · cases hs
theorem b0d {n:Nat} {ks:List Nat} {k:Nat} {es:List (Value×Value)} {ty:MTy}:∀ {Hd:Hy},a9T n ks Hd=true→j7 Hd k=some (.mp es ty)→k<n
 | [],_,h=>by simp [j7]at h
 |(j, .blk d t)::r,hs,h=>by
  simp only [a9T]at hs;split at hs
  · simp only [j7]at h;cases hb:Nat.beq j k with
    |true=>rw [hb]at h;cases h
    |false=>rw [hb]at h;exact b0d hs h
  · cases hs
 |(j, .row z m l t)::r,hs,h=>by
  simp only [a9T]at hs;simp only [j7]at h;cases hb:Nat.beq j k with
  |true=>rw [hb]at h;cases h
  |false=>rw [hb]at h;exact b0d hs h
 |(j, .mp es t)::r,hs,h=>by
  simp only [a9T]at hs;split at hs
  · rename_i h1;simp only [j7]at h;cases hb:Nat.beq j k with
    |true=>have:=r6 hb;subst this;exact Q4.1 h1
    |false=>rw [hb]at h;exact b0d hs h
  · cases hs
theorem b2W {l:List Nat} (h:ndB l=true):l.Nodup:=c5R h
theorem b5X {T:List (Nat×SV)} {d:Nat}:∀ {Td:List (Nat×D)} {x:D} {s:SV},o4 Td d=some x→u1 T d=some s→u1 (fwT T Td) d=some (fwS x s)
 | [],_,_,h,_=>by simp [o4]at h
 |(i,y)::r,x,s,h,hl=>by
  simp only [o4]at h;cases hb:Nat.beq i d with
  |true=>
   rw [hb]at h;cases h;have:=r6 hb;subst this;simp only [fwT,hl,u1,hb]
  |false=>
   rw [hb]at h;simp only [fwT];split<;>simp only [u1,hb]<;>exact b5X h hl
theorem b3w {n:Nat} {ks:List Nat}:∀ {Td:List (Nat×D)},c4s n ks Td=true→∀p,p∈Td→inK n ks p.2=true
 | [],_,_,h=>by cases h
 |(i,y)::r,hs,p,h=>by
  simp only [c4s]at hs;split at hs
  · rename_i h1;rcases o5.1 h with rfl|h
    · exact h1
    · exact b3w hs p h
  · cases hs
theorem b4B {n:Nat}:∀ {H:Hy},ltY n H=true→∀k,k∈P7 H→k<n
 | [],_,_,h=>by cases h
 |(j,e)::r,hs,k,h=>by
  simp only [ltY]at hs;split at hs
  · rename_i hb;simp only [P7]at h;rcases o5.1 h with rfl|h
    · exact Q4.1 hb
    · exact b4B hs k h
  · cases hs
theorem c0k {H:Hy} {k:Nat} {e:E} (h:j7 H k=some e):(k,e)∈H:=by
 induction H with
 |nil=>simp [j7]at h
 |cons x H ih=>
  obtain⟨j,e'⟩:=x;simp only [j7]at h;cases hb:Nat.beq j k with
  |true=>rw [hb]at h;cases h;rw [r6 hb];exact F5
  |false=>rw [hb]at h;exact A9 _ (ih h)
theorem b3I {H:Hy} {k:Nat} {e:E} (h:(k,e)∈H):k∈P7 H:=by
 induction H with
 |nil=>cases h
 |cons x H ih=>
  obtain⟨j,e'⟩:=x;simp only [P7];rcases o5.1 h with h|h
  · cases h;exact F5
  · exact A9 _ (ih h)
theorem a7Q {H:Hy} (hn:(P7 H).Nodup) {k:Nat} {e:E} (h:(k,e)∈H):j7 H k=some e:=by
 induction H with
 |nil=>cases h
 |cons x H ih=>
  obtain⟨j,e'⟩:=x;simp only [P7,a1r]at hn;simp only [j7];rcases o5.1 h with h|h
  · cases h;simp
  · have hk:=b3I h;have:j≠k:=fun e=>hn.1 (e▸hk)
    rw [J2 this];exact ih hn.2 h
theorem c0h {T:List (Nat×D)} {d:Nat} {x:D} (hx:o4 T d=some x):(d,x)∈T:=by
 induction T with
 |nil=>simp [o4]at hx
 |cons p T ih=>
  obtain⟨i,y⟩:=p;simp only [o4]at hx;cases hbq:Nat.beq i d with
  |true=>rw [hbq]at hx;cases hx;have:=r6 hbq;subst this;exact F5
  |false=>rw [hbq]at hx;exact A9 _ (ih hx)
theorem c2t.rel {sy':Sy} (h:c2t sy sy') (hs:Sim A st sy) (hr:Rel (cx X w0 bor) st a w):∃st',Sim A st' sy'∧Rel (cx X w0 bor) st' a w∧∀b,b∈bs st'.H→b∈bs st.H:=by
 obtain⟨n,hshape,hT,hH⟩:=h.ex;have hs0:=hs.now hr.cls;have hr0:=hr.now;obtain⟨T',H',nk'⟩:=sy';simp only at hT hH;unfold a7U at hshape;split at hshape
 · rename_i h1 h2 h3 h4;simp only at h1 h2 h3 h4;have hkn:=b2W h1
   let Hn:Hp:=fwH n st.H H'
   let Tn:=fwT st.T T'
   let st':St:=⟨Tn,Hn,nk',w,w.heap.size, []⟩
   --each entry of the shape
   have entO:∀k e,j7 H' k=some e→(∀ds ty,e= .blk ds ty→∃b cs,e8 st.H k=some (.blk b cs ty)∧e8 Hn k=some (.blk b (fwB ds cs) ty)∧a8H (okS A (now st w)) w (u6 (now st w)) (a0s n ds) cs)∧
    (∀z m l ty,e= .row z m l ty→(Nat.blt k n=true∧∃v xs,e8 st.H k=some (.row v m xs z ty)∧e8 Hn k=some (.row v m xs z ty)∧j1 (okS A (now st w)) w l xs∧u7 l=true∧l.length=m*z)∨
     (Nat.blt k n=false∧m=0∧l= []∧e8 Hn k=some (.row (.slice none 0 0) 0 [] z ty))):=by
    intro k e he;have hsub:=a6O hH he;refine⟨fun ds ty heq=> ?_,fun z m l ty heq=> ?_⟩
    · subst heq;simp only [b3K]at hsub;obtain⟨cs0,hsub,hle⟩:=hsub;obtain⟨e',h5,h6⟩:=hs0.H k _ hsub;cases e' with
      |row=>exact h6.elim
      |mp=>exact h6.elim
      |blk b cs ty'=>
       obtain⟨rfl,h6⟩:=h6;exact⟨b,cs,h5,a9k h5 he,b4J _ _ _ hle h6⟩
    · subst heq;simp only [b3K]at hsub;cases hb:Nat.blt k n with
      |true=>
       rw [hb]at hsub;obtain⟨m0,l0,hsub,rfl,rfl⟩:=hsub;obtain⟨e',h5,h6⟩:=hs0.H k _ hsub;cases e' with
       |blk=>exact h6.elim
       |mp=>exact h6.elim
       |row v m' xs z' ty'=>
        obtain⟨rfl,rfl,rfl,h7,h8,h9⟩:=h6;exact .inl ⟨rfl,v,xs,h5,a9F hb h5 he,h7,h8,h9⟩
      |false=>
       rw [hb]at hsub;obtain⟨rfl,rfl⟩:=hsub;exact .inr ⟨rfl,rfl,rfl,a9m hb he⟩
   have entM:∀k es ty,j7 H' k=some (.mp es ty)→k<n∧∃b,e8 st.H k=some (.mp b es ty)∧e8 Hn k=some (.mp b es ty):=by
    intro k es ty he;obtain⟨es0,hsub,rfl⟩:=a6O hH he;obtain⟨e',h5,h6⟩:=hs0.H k _ hsub;cases e' with
    |blk=>exact h6.elim
    |row=>exact h6.elim
    |mp b es' ty'=>
     obtain⟨rfl,rfl⟩:=h6;exact⟨b0d h4 he,b,h5,b1e h5 he⟩
   have hnkk:∀k,F2 k (P7 H')=true→k<nk':=fun k hk=>by
    obtain⟨e,he⟩:=a3y hk;exact b4B h2 k (b3I (c0k he))
   have hz:b9c (okS A (now st w)) w n (P7 H') (u6 (now st w)) (u6 st') st.H Hn:=by
    refine⟨fun q j hj hlt hq=>⟨hnkk j hj,fun hq2=> ?_⟩,fun j hj hlt=> ?_,fun j hj hlt=> ?_⟩
    · obtain⟨e,he⟩:=a3y hj;obtain⟨er,hrow,hir⟩:=hq.2 hq2;cases e with
      |blk ds ty=>
       obtain⟨b,cs,g1,_⟩:=(entO j _ he).1 ds ty rfl;simp only [now]at hrow;rw [g1]at hrow;cases hrow;cases hir
      |mp es ty=>
       obtain⟨_,b,_,g2⟩:=entM j es ty he;exact⟨_,g2,rfl⟩
      |row z m l ty=>
       rcases(entO j _ he).2 z m l ty rfl with⟨_,v,xs,_,g2,_⟩|⟨g1,_⟩
       · exact⟨_,g2,rfl⟩
       · rw [Q4.2 hlt]at g1;cases g1
    · obtain⟨e,he⟩:=a3y hj;cases e with
      |blk ds ty=>
       obtain⟨b,cs,g1,g2,_⟩:=(entO j _ he).1 ds ty rfl;simp only [bOf,l3,g1,g2];exact⟨trivial,trivial⟩
      |mp es ty=>
       obtain⟨_,b,g1,g2⟩:=entM j es ty he;simp only [bOf,l3,g1,g2];exact⟨trivial,trivial⟩
      |row z m l ty=>
       rcases(entO j _ he).2 z m l ty rfl with⟨_,v,xs,g1,g2,_⟩|⟨g1,_⟩
       · simp only [bOf,l3,g1,g2];exact⟨trivial,trivial⟩
       · rw [Q4.2 hlt]at g1;cases g1
    · obtain⟨e,he⟩:=a3y hj;cases e with
      |blk ds ty=>exact absurd (a0B h4 he).1 hlt
      |mp es ty=>exact absurd (entM j es ty he).1 hlt
      |row z m l ty=>
       rcases(entO j _ he).2 z m l ty rfl with⟨g1,_⟩|⟨_,_,_,g2⟩
       · exact absurd (Q4.1 g1) hlt
       · exact⟨⟨hnkk j hj,fun _=>⟨_,g2,rfl⟩⟩,by simp [l3,g2]⟩
   --the entries' source
   have hsrc:∀Hd:Hy,(∀k e,(k,e)∈Hd→(k,e)∈H')→a3i st.H Hn (a2w n Hd) (fwH n st.H Hd):=by
    intro Hd
    induction Hd with
    |nil=>intro _;trivial
    |cons x Hd ih=>
     intro hsubm;obtain⟨k,e⟩:=x;have hmem:=hsubm k e F5;have he:=a7Q hkn hmem;have ih:=ih fun k e h=>hsubm k e (A9 _ h)
     cases e with
     |blk ds ty=>
      obtain⟨b,cs,g1,g2,g3⟩:=(entO k _ he).1 ds ty rfl;obtain⟨q1,q2⟩:=a0B h4 he;simp only [a2w,fwH,g1,a3i];refine⟨?_,ih⟩;simp only [b5e];exact⟨trivial,(a7S hz ds cs g3 q2).2,trivial⟩
     |mp es ty=>
      obtain⟨_,b,g1,g2⟩:=entM k es ty he;simp only [a2w,fwH,g1,a3i];exact⟨by simp only [b5e];exact⟨trivial,trivial,trivial⟩,ih⟩
     |row z m l ty=>
      rcases(entO k _ he).2 z m l ty rfl with⟨hb,v,xs,g1,g2,_⟩|⟨hb,rfl,rfl,g2⟩
      · simp only [a2w,fwH,hb,g1,a3i];exact⟨by simp only [b5e];exact⟨trivial,trivial,trivial,trivial,trivial⟩,ih⟩
      · simp only [a2w,fwH,hb,a3i];exact⟨⟨trivial,trivial,trivial⟩,ih⟩
   --the slots
   have hin:=b3w h3
   have hent:∀p,p∈T'→∃s0,u1 st.T p.1=some s0∧s0≠ .bad∧d8 (okS A (now st w)) w (u6 st') p.2 (fwS p.2 s0)∧den Hn (fwS p.2 s0)=den st.H s0:=by
    have hall:∀Td:List (Nat×D),b1q n sy.T Td→∀p,p∈Td→∃y,o4 sy.T p.1=some y∧leD y (a0i n p.2):=by
     intro Td
     induction Td with
     |nil=>intro _ p hp;cases hp
     |cons q Td ih=>
      intro hq p hp;simp only [b1q]at hq;rcases o5.1 hp with rfl|hp
      · exact hq.1
      · exact ih hq.2 p hp
    intro p hp;have hi:=hin p hp;have hbad:p.2≠ .bad:=fun e=>by rw [e]at hi;simp [inK]at hi
    have hbk:a0i n p.2≠ .bad:=by
     cases hx:p.2<;>simp only [a0i]<;>first|(intro e;cases e)|skip
     · split<;>(intro e;cases e)
     · exact absurd hx hbad
    obtain⟨y,hy1,hy2⟩:=hall T' hT p hp;rcases hs0.T p.1 y hy1 with e|⟨s,g1,g2⟩
    · subst e;simp only [leD]at hy2;exact absurd hy2.symm hbk
    · have g2:=b8l _ _ _ hy2 g2;obtain⟨g3,g4⟩:=b8a hz p.2 s g2 hi;exact⟨s,g1,g2.ne hbk,g3,g4⟩
   have hsubT:∀Td:List (Nat×D),(∀p,p∈Td→p∈T')→c2X st.H Hn st.T (fwT st.T Td)∧∀j,nk'≤j→o7 j (fwT st.T Td)=true:=by
    intro Td
    induction Td with
    |nil=>intro _;exact⟨trivial,fun _ _=>rfl⟩
    |cons q Td ih=>
     intro hm;obtain⟨s0,g1,g2,g3,g4⟩:=hent q (hm q F5);obtain⟨i1,i2⟩:=ih fun p hp=>hm p (A9 _ hp)
     obtain⟨d,x⟩:=q;simp only at g1 g2 g3 g4;simp only [fwT,g1];refine⟨⟨?_,i1⟩,fun j hj=> ?_⟩
     · rw [g1];cases s0<;>first|exact g4.symm|exact absurd rfl g2
     · have hm0:ment j (fwS x s0)=false:=d8.ment (fun p hp=>by have:=hp.1;simp only [st']at this;omega) _ _ g3;simp only [o7,hm0];exact i2 j hj
   obtain⟨k1,k2⟩:=hsubT T' fun _ h=>h
   have hkeys:(Hn.map (·.1))=P7 H':=b0f H'
   have hsub:Sub (now st w) st':=by
    refine⟨a2w n H',k1,hsrc H' (fun _ _ h=>h), ?_,by simp only [st'];rw [hkeys];exact hkn,fun k hk=> ?_⟩
    · have:∀Hd:Hy,(a2w n Hd).filterMap id=(P7 Hd).filter (fun k=>F2 k ((a2w n Hd).filterMap id))∨True:=fun _=> .inr trivial
      have hsubl:∀Hd:Hy,((a2w n Hd).filterMap id).Sublist (P7 Hd):=by
       intro Hd
       induction Hd with
       |nil=>exact List.Sublist.slnil
       |cons x Hd ih=>
        obtain⟨k,e⟩:=x;cases e with
        |blk ds ty=>simp only [a2w,P7,List.filterMap_cons,id];exact List.Sublist.cons_cons _ ih
        |mp es ty=>simp only [a2w,P7,List.filterMap_cons,id];exact List.Sublist.cons_cons _ ih
        |row z m l ty=>
         simp only [a2w,P7];cases hb:Nat.blt k n with
         |true=>simp only [List.filterMap_cons,id];exact List.Sublist.cons_cons _ ih
         |false=>simp only [List.filterMap_cons,id];exact List.Sublist.cons _ ih
      exact(hsubl H').nodup hkn
    · simp only [st']at hk;rw [hkeys]at hk;exact b4B h2 k hk
   obtain⟨hrel,hbs⟩:=hsub.rel hr0 ⟨rfl,rfl,rfl⟩;have hok:∀b,okS A (now st w) b→okS A st' b∧w.heap[b]?=w.heap[b]?:=fun b hb=>⟨⟨⟨.inl hb.2.1,hb.1.2⟩,hb.2.1,fun c hc=>hb.2.2 c (hbs c hc)⟩,rfl⟩
   refine⟨st',⟨fun d x hx=> ?_,fun k e he=> ?_,rfl,k2,fun j hj=> ?_⟩,hrel,hbs⟩
   · right;have hp:(d,x)∈T':=c0h hx;obtain⟨s0,g1,g2,g3,g4⟩:=hent _ hp;exact⟨fwS x s0,b5X hx g1,d8.mono hok (fun _ _ h=>h) _ _ g3⟩
   · cases e with
     |blk ds ty=>
      obtain⟨b,cs,g1,g2,g3⟩:=(entO k _ he).1 ds ty rfl;obtain⟨q1,q2⟩:=a0B h4 he;exact⟨_,g2,by exact⟨rfl,d9.mono hok (fun _ _ h=>h) _ _ (a7S hz ds cs g3 q2).1⟩⟩
     |mp es ty=>
      obtain⟨_,b,_,g2⟩:=entM k es ty he;exact⟨_,g2,by exact⟨rfl,rfl⟩⟩
     |row z m l ty=>
      rcases(entO k _ he).2 z m l ty rfl with⟨hb,v,xs,g1,g2,g3,g4,g5⟩|⟨hb,rfl,rfl,g2⟩
      · exact⟨_,g2,by exact⟨rfl,rfl,rfl,j1.mono hok _ _ g3,g4,g5⟩⟩
      · exact⟨_,g2,by exact⟨rfl,rfl,rfl,trivial,rfl,by simp⟩⟩
   · have hfr:∀Hd:Hy,(∀k e,(k,e)∈Hd→(k,e)∈H')→u3 j (fwH n st.H Hd)=true:=by
      intro Hd
      induction Hd with
      |nil=>intro _;rfl
      |cons x Hd ih=>
       intro hsubm;obtain⟨k,e⟩:=x;have he:=a7Q hkn (hsubm k e F5);have ih:=ih fun k e h=>hsubm k e (A9 _ h)
       cases e with
       |blk ds ty=>
        obtain⟨b,cs,g1,g2,g3⟩:=(entO k _ he).1 ds ty rfl;obtain⟨q1,q2⟩:=a0B h4 he;simp only [fwH,g1];refine H7 ?_ ih;simp only [a4k,a4p];exact(a7S hz ds cs g3 q2).1.ment fun p hp=>by have:=hp.1;simp only [st']at this hj;omega
       |mp es ty=>
        simp only [fwH];split<;>exact H7 rfl ih
       |row z m l ty=>
        simp only [fwH];split<;>exact H7 rfl ih
     exact hfr H' fun _ _ h=>h
 · cases hshape
theorem c6m.rel {sy':Sy} (h:c6m sy sy') (hs:Sim A st sy) (hr:Rel (cx X w0 bor) st a w):∃st',Sim A st' sy'∧Rel (cx X w0 bor) st' a w∧∀b,b∈bs st'.H→b∈bs st.H:=by
 rcases h.ex with h|⟨p,q,m,⟨hp,hq⟩,h1,h2⟩
 · exact h.rel hs hr
 · obtain⟨st1,s1,r1,b1⟩:=h1.rel hs hr;have hm:st1.nk=m:=s1.nk.symm;obtain⟨s2,r2⟩:=c7c (a:=p) (b:=q) (by rw [hm];exact Q4.1 hp) (by rw [hm];exact Q4.1 hq) s1 r1;simp only [b3H,b3D]at s2;obtain⟨st3,s3,r3,b3⟩:=h2.rel s2 r2;exact⟨st3,s3,r3,fun b hb=>b1 b (by have:=b3 b hb;simp only [a4j,b3z]at this;exact this)⟩
theorem F6.rel {sy':Sy} (hA:AG A X.P w0 bor) (h:F6 sy sy') (hs:Sim A st sy) (hr:Rel (cx X w0 bor) st a w):∃st',Sim A st' sy'∧Rel (cx X w0 bor) st' a w∧∀b,b∈bs st'.H→b∈bs st.H:=by
 obtain⟨ks,sy1,hf,hk⟩:=h.ex;obtain⟨st1,s1,hr1,b1⟩:=b5q hA hf hs hr;obtain⟨st2,h1,h2,h3⟩:=hk.rel s1 hr1;exact⟨st2,h1,h2,fun b hb=>b1 b (h3 b hb)⟩
end
section
variable {A : Nat → Prop} {X : Cy} {w0 : World} {bor : List Nat} {st : St} {sy : Sy} {a : Act} {w : World}
theorem a2h (hs:Sim A st sy):∀ {rs:List ResultVar} {l:List D},V5 X sy rs=some l→∃l',a6k (cx X w0 bor) st rs=some l'∧d9 (okS A st) st.w (u6 st) l l'
 | [],l,h=>by simp only [V5]at h;cases h;exact⟨[],rfl,trivial⟩
 | .tmp t::rs,l,h=>by
  simp only [V5]at h;split at h
  · cases h
  · rename_i x l1 hb hx hl;cases h;obtain⟨l',h1,h2⟩:=a2h hs hl;obtain⟨hlt,hx⟩:=a1a hx;rcases hs.T t x hx with e|⟨s,h3,h4⟩
    · exact absurd e hb
    · have hsb:=h4.ne hb;refine⟨s::l', ?_,h4,h2⟩;simp only [a6k,a5p hlt,h3,h1]
      try (cases s<;>first|rfl|exact absurd rfl hsb)
  · cases h
 | .cell b t::rs,l,h=>by
  simp only [V5]at h;split at h
  · rename_i i k o l1 hi hx hl;obtain⟨l',h1,h2⟩:=a2h hs hl;split at h
    · rename_i cs ty hf;obtain⟨e',hf',he⟩:=hs.H _ _ hf;cases e' with
      |row=>exact he.elim
      |mp=>exact he.elim
      |blk b' cs' ty'=>
       split at h
       · rename_i c hc;split at h
         · rename_i x hm;cases h;obtain⟨r,h3,h4⟩:=(he.2.dropD o).takeD hc;obtain⟨s,h5,h6⟩:=b9H h4 hm;obtain⟨hlt,hx⟩:=a1a hx;rcases hs.T b _ hx with e|⟨s0,h7,h8⟩
           · cases e
           · simp only [d8]at h8;obtain⟨rfl,_⟩:=h8;exact⟨s::l',by simp only [a6k,cx,hi,a5p hlt,h7];rw [show a6k ⟨X.P,X.tt,w0,bor,X.nt,X.pl,X.dfs,X.sv⟩ st rs=some l' from h1];simp only [hf',h3,h5],h6,h2⟩
         · cases h
       · cases h
    · cases h
  · cases h
theorem a0M {n:Nat} {l:List D} {d:Nat} {s:D} (h:o4 (a0t n l) d=some s):n≤d∧l[d-n]?=some s:=by
 induction l generalizing n with
 |nil=>simp [a0t,o4]at h
 |cons x l ih=>
  simp only [a0t,o4]at h;cases hb:Nat.beq n d with
  |true=>rw [hb]at h;cases h;have:=r6 hb;subst this;simp
  |false=>
   rw [hb]at h;obtain⟨h1,h2⟩:=ih h;have hne:=a0L hb;have:d-n=(d-(n+1))+1:=by omega
   rw [this];exact⟨by omega,by simpa using h2⟩
theorem a3v {n d:Nat} {l:List SV} {s:SV} (hd:n≤d) (h:l[d-n]?=some s):u1 (a2p n l) d=some s:=by
 induction l generalizing n with
 |nil=>simp at h
 |cons x l ih=>
  simp only [a2p,u1];cases hb:Nat.beq n d with
  |true=>have:=r6 hb;subst this;simpa using h
  |false=>
   have hne:=a0L hb;have:d-n=(d-(n+1))+1:=by omega
   rw [this]at h;exact ih (by omega) (by simpa using h)
theorem a2m {j n:Nat} {l:List Value}:o7 j (a2p n (vs l))=true:=by
 induction l generalizing n with
 |nil=>rfl
 |cons x l ih=>simp only [vs,a2p,o7,ment];exact ih
theorem a2J {l r:List (Nat×SV)} {d:Nat}:u1 (l++r) d=match u1 l d with|some s=>some s|none=>u1 r d:=by
 induction l with
 |nil=>rfl
 |cons x l ih=>
  obtain⟨e,s⟩:=x;simp only [S0,u1];cases Nat.beq e d with
  |true=>rfl
  |false=>exact ih
theorem b5l {l r:List (Nat×D)} {d:Nat}:o4 (l++r) d=match o4 l d with|some s=>some s|none=>o4 r d:=by
 induction l with
 |nil=>rfl
 |cons x l ih=>
  obtain⟨e,s⟩:=x;simp only [S0,o4];cases Nat.beq e d with
  |true=>rfl
  |false=>exact ih
theorem a9n {a b:Nat} (h:Nat.blt a b=true):a<b:=by simpa [a1h]using h
theorem a7P {a b:Nat} (h:Nat.blt a b=false):¬a<b:=fun hl=>by
 have:Nat.blt a b=true:=by rw [a1h];exact hl
 rw [h]at this;cases this
def I3 {α:Type}:List (Nat×α)→Nat→Option α
 | [],_=>none
 |(d,s)::T,k=>match Nat.beq d k with|true=>some s|false=>I3 T k
theorem a0f (T:List (Nat×SV)) (d:Nat):u1 T d=I3 T d:=by
 induction T with
 |nil=>rfl
 |cons p T ih=>obtain⟨e,s⟩:=p;simp only [u1,I3];cases Nat.beq e d;exact ih;rfl
theorem a5P (T:List (Nat×D)) (d:Nat):o4 T d=I3 T d:=by
 induction T with
 |nil=>rfl
 |cons p T ih=>obtain⟨e,s⟩:=p;simp only [o4,I3];cases Nat.beq e d;exact ih;rfl
section
variable {α : Type} {nt : Nat}
theorem b7e (hn:nt≤1000000) (T:List (Nat×α)) {e:Nat} (h:e<1000000):I3 (O6 nt T) e=none:=by
 induction T with
 |nil=>rfl
 |cons p T ih=>
  obtain⟨d,y⟩:=p;simp only [O6];split
  · rename_i hb;have:=a9n hb;have hne:Nat.beq (Nat.add 1000000 d) e=false:=J2 (by show 1000000+d≠e;omega);simp only [I3,hne,ih]
  · split
    · exact ih
    · rename_i hc;have:=a7P hc;have hne:Nat.beq (Nat.add d nt) e=false:=J2 (by show d+nt≠e;omega);simp only [I3,hne,ih]
theorem a8l (hn:nt≤1000000) (T:List (Nat×α)) {e:Nat} (h:e<nt):I3 (O6 nt T) (1000000+e)=I3 T e:=by
 induction T with
 |nil=>rfl
 |cons p T ih=>
  obtain⟨d,y⟩:=p;simp only [O6];split
  · simp only [I3];by_cases he:d=e
    · subst he;have h1:Nat.beq (Nat.add 1000000 d) (1000000+d)=true:=Nat.beq_refl _;have h2:Nat.beq d d=true:=Nat.beq_refl _;rw [h1,h2]
    · have h1:Nat.beq (Nat.add 1000000 d) (1000000+e)=false:=J2 (by show 1000000+d≠_;omega);rw [h1,J2 he];exact ih
  · rename_i hb;have hb:=a7P hb;have hne:Nat.beq d e=false:=J2 (by omega);split
    · simp only [I3,hne,ih]
    · rename_i hc;have:=a7P hc;have h1:Nat.beq (Nat.add d nt) (1000000+e)=false:=J2 (by show d+nt≠_;omega);simp only [I3,hne,h1,ih]
theorem b1r (hn:nt≤1000000) (T:List (Nat×α)) {e:Nat} (h:1000000≤e):I3 (O6 nt T) (e+nt)=I3 T e:=by
 induction T with
 |nil=>rfl
 |cons p T ih=>
  obtain⟨d,y⟩:=p;simp only [O6];split
  · rename_i hb;have:=a9n hb;have h1:Nat.beq (Nat.add 1000000 d) (e+nt)=false:=J2 (by show 1000000+d≠_;omega);have hne:Nat.beq d e=false:=J2 (by omega);simp only [I3,hne,h1,ih]
  · split
    · rename_i hc;have:=a9n hc;have hne:Nat.beq d e=false:=J2 (by omega);simp only [I3,hne,ih]
    · simp only [I3];by_cases he:d=e
      · subst he;have h1:Nat.beq (Nat.add d nt) (d+nt)=true:=Nat.beq_refl _;have h2:Nat.beq d d=true:=Nat.beq_refl _;rw [h1,h2]
      · have h1:Nat.beq (Nat.add d nt) (e+nt)=false:=J2 (by show d+nt≠_;omega);rw [h1,J2 he];exact ih
theorem a4K (hn:nt≤1000000) (T:List (Nat×α)) {e:Nat} (h:e<nt):I3 (F4 nt T) e=I3 T (1000000+e):=by
 induction T with
 |nil=>rfl
 |cons p T ih=>
  obtain⟨d,y⟩:=p;simp only [F4];split
  · rename_i hb;have:=a9n hb;have h1:Nat.beq d (1000000+e)=false:=J2 (by omega);simp only [I3,h1,ih]
  · rename_i hb;have hb:=a7P hb;split
    · rename_i hc;have hc:d<1000000+nt:=a9n hc;simp only [I3];by_cases he:d=1000000+e
      · have h1:Nat.beq (Nat.mod d 1000000) e=true:=by rw [Nat.beq_eq];show d % 1000000=e;omega
        have h2:Nat.beq d (1000000+e)=true:=by rw [Nat.beq_eq];exact he
        rw [h1,h2]
      · have h1:Nat.beq (Nat.mod d 1000000) e=false:=J2 (by show d % 1000000≠e;omega);rw [h1,J2 he];exact ih
    · rename_i hc;have hc:¬d<1000000+nt:=a7P hc;have h1:Nat.beq (Nat.sub d nt) e=false:=J2 (by show d-nt≠e;omega);have h2:Nat.beq d (1000000+e)=false:=J2 (by omega);simp only [I3,h1,h2,ih]
theorem a6V (hn:nt≤1000000) (T:List (Nat×α)) {e:Nat} (h:1000000≤e):I3 (F4 nt T) e=I3 T (e+nt):=by
 induction T with
 |nil=>rfl
 |cons p T ih=>
  obtain⟨d,y⟩:=p;simp only [F4];split
  · rename_i hb;have:=a9n hb;have h1:Nat.beq d (e+nt)=false:=J2 (by omega);simp only [I3,h1,ih]
  · rename_i hb;have hb:=a7P hb;split
    · rename_i hc;have hc:d<1000000+nt:=a9n hc;have h1:Nat.beq (Nat.mod d 1000000) e=false:=J2 (by show d % 1000000≠e;omega);have h2:Nat.beq d (e+nt)=false:=J2 (by omega);simp only [I3,h1,h2,ih]
    · rename_i hc;have hc:¬d<1000000+nt:=a7P hc;simp only [I3];by_cases he:d=e+nt
      · have h1:Nat.beq (Nat.sub d nt) e=true:=by rw [Nat.beq_eq];show d-nt=e;omega
        have h2:Nat.beq d (e+nt)=true:=by rw [Nat.beq_eq];exact he
        rw [h1,h2]
      · have h1:Nat.beq (Nat.sub d nt) e=false:=J2 (by show d-nt≠e;omega);rw [h1,J2 he];exact ih
theorem b0I (hn:nt≤1000000) (T:List (Nat×α)) {e:Nat} (h:¬e<nt) (h':e<1000000):I3 (F4 nt T) e=none:=by
 induction T with
 |nil=>rfl
 |cons p T ih=>
  obtain⟨d,y⟩:=p;simp only [F4];split
  · exact ih
  · rename_i hb;have hb:=a7P hb;split
    · rename_i hc;have hc:d<1000000+nt:=a9n hc;have h1:Nat.beq (Nat.mod d 1000000) e=false:=J2 (by show d % 1000000≠e;omega);simp only [I3,h1,ih]
    · rename_i hc;have hc:¬d<1000000+nt:=a7P hc;have h1:Nat.beq (Nat.sub d nt) e=false:=J2 (by show d-nt≠e;omega);simp only [I3,h1,ih]
end
theorem b6X {j nt:Nat} {T:List (Nat×SV)} (h:o7 j T=true):o7 j (O6 nt T)=true:=by
 induction T with
 |nil=>rfl
 |cons p T ih=>
  obtain⟨d,y⟩:=p;simp only [o7]at h;split at h
  · cases h
  · rename_i hm;simp only [O6];split
    · simp only [o7,hm];exact ih h
    · split
      · exact ih h
      · simp only [o7,hm];exact ih h
theorem b2s {j nt:Nat} {T:List (Nat×SV)} (h:o7 j T=true):o7 j (F4 nt T)=true:=by
 induction T with
 |nil=>rfl
 |cons p T ih=>
  obtain⟨d,y⟩:=p;simp only [o7]at h;split at h
  · cases h
  · rename_i hm;simp only [F4];split
    · exact ih h
    · split
      · simp only [o7,hm];exact ih h
      · simp only [o7,hm];exact ih h
theorem b3n {j:Nat}:∀ {n:Nat} {l:List SV},C9 j l=false→o7 j (a2p n l)=true
 |_, [],_=>rfl
 |n,x::l,h=>by
  simp only [C9]at h;split at h
  · cases h
  · rename_i hm;simp only [a2p,o7,hm];exact b3n h
theorem c1k {j:Nat} {l r:List (Nat×SV)} (hl:o7 j l=true) (hr:o7 j r=true):o7 j (l++r)=true:=by
 induction l with
 |nil=>exact hr
 |cons p l ih=>
  obtain⟨d,y⟩:=p;simp only [o7]at hl;split at hl
  · cases hl
  · rename_i hm;simp only [S0,o7,hm];exact ih hl
theorem c3U {X X':Cy} (h:X.tt=X'.tt) (st:Sy) (rs:List ResultVar):V5 X st rs=V5 X' st rs:=by
 induction rs with
 |nil=>rfl
 |cons r rs ih=>cases r<;>simp only [V5,ih,h]
theorem d9.get {ok:Nat→Prop} {w:World} {R:Bool→Nat→Prop} {l:List D} {r:List SV} (h:d9 ok w R l r) {i:Nat} {x:D} (hx:l[i]?=some x):∃s,r[i]?=some s∧d8 ok w R x s:=by
 induction l generalizing r i with
 |nil=>simp at hx
 |cons d l ih=>cases r with
  |nil=>simp [d9]at h
  |cons y r=>
   simp only [d9]at h;cases i with
   |zero=>simp at hx;subst hx;exact⟨y,rfl,h.1⟩
   |succ i=>simp at hx;simpa using ih h.2 hx
theorem b2a {nt:Nat} (hn:nt≤1000000) {T:List (Nat×SV)} {d:Nat} {s:SV} (h:u1 (O6 nt T) d=some s):(∃e,d=1000000+e∧e<nt∧u1 T e=some s)∨(∃e,d=e+nt∧1000000≤e∧u1 T e=some s):=by
 rw [a0f]at h;by_cases h1:d<1000000
 · rw [b7e hn _ h1]at h;cases h
 · by_cases h2:d<1000000+nt
   · obtain⟨e,rfl⟩:∃e,d=1000000+e:=⟨d-1000000,by omega⟩;rw [a8l hn _ (by omega)]at h;exact .inl ⟨e,rfl,by omega,by rw [a0f];exact h⟩
   · obtain⟨e,rfl⟩:∃e,d=e+nt:=⟨d-nt,by omega⟩;rw [b1r hn _ (by omega)]at h;exact .inr ⟨e,rfl,by omega,by rw [a0f];exact h⟩
theorem a9R {nt:Nat} (hn:nt≤1000000) {T:List (Nat×D)} {d:Nat} {s:D} (h:o4 (O6 nt T) d=some s):(∃e,d=1000000+e∧e<nt∧o4 T e=some s)∨(∃e,d=e+nt∧1000000≤e∧o4 T e=some s):=by
 rw [a5P]at h;by_cases h1:d<1000000
 · rw [b7e hn _ h1]at h;cases h
 · by_cases h2:d<1000000+nt
   · obtain⟨e,rfl⟩:∃e,d=1000000+e:=⟨d-1000000,by omega⟩;rw [a8l hn _ (by omega)]at h;exact .inl ⟨e,rfl,by omega,by rw [a5P];exact h⟩
   · obtain⟨e,rfl⟩:∃e,d=e+nt:=⟨d-nt,by omega⟩;rw [b1r hn _ (by omega)]at h;exact .inr ⟨e,rfl,by omega,by rw [a5P];exact h⟩
theorem b4b {n d:Nat} {l:List SV} (h:d<n∨n+l.length≤d):u1 (a2p n l) d=none:=by
 induction l generalizing n with
 |nil=>rfl
 |cons x l ih=>
  simp only [P0]at h;simp only [a2p,u1,J2 (show n≠d by omega)];exact ih (by omega)
theorem b8o (hA:AG A X.P w0 bor) (hP:POK X.P X.tt) {o:Oper} {Q:Exit→Act→World→Prop} {KY:Sy→Prop} {f:FuncId} {args:List D} {args':List SV} (hr:Rel (cx X w0 bor) st a w) (hs:Sim A st sy) (ha:d9 (okS A st) st.w (u6 st) args args')
 (h:a6F X f args o.dst sy KY) (hout:Y1 (cx X w0 bor) st a o (.call f args')):o.wp X.P a w (LvY A (cx X w0 bor) st.H w KY) Q:=by
 obtain⟨nt,pl,ln,un,inl,fn,c,st0,st1,⟨hf,hb,hnt,hg,hl⟩,hsub,hbody,hk⟩:=h.ex;have hg:nt≤1000000:=F7 hg;have hl:args.length≤nt:=F7 hl;have hlen:=ha.length;have hXn:X.nt≤1000000:=hr.size.2;have hXs:a.tmps.size=X.nt:=hr.size.1;generalize hX':(⟨X.P,X.tt,nt,pl,ln,un, [],inl, []⟩:Cy)=X' at hbody;have hP':X'.P=X.P:=by rw [←hX']
 have htt:X'.tt=X.tt:=by rw [←hX']
 have hn':X'.nt=nt:=by rw [←hX']
 have hd':X'.dfs= []:=by rw [←hX']
 generalize hsv:a.tmps.toList++X.sv=sv
 have hrc:Rel (cx { X' with sv:=sv} w0 bor) ⟨a2p 0 args'++O6 X.nt st.T,st.H,st.nk,st.w,st.lo,st.iv⟩ { tmps:=(l4 st.H args').toArray++Array.replicate (fn.ntmps-(l4 st.H args').toArray.size) undef,defers:= []} w:=by
  refine⟨⟨by simp [cx,hn',o0,←hlen];omega,by simp only [cx,hn'];exact hg⟩,fun d s hs=> ?_,by simp [cx,hd'],⟨hr.cls.fx,hr.cls.fx0,hr.cls.own,hr.cls.nd,hr.cls.lb,hr.cls.keys,hr.cls.lt⟩,hr.lo,hr.iv⟩;simp only [a2J]at hs;split at hs
  · rename_i s' hz;cases hs;obtain⟨_,h2⟩:=a0O (n:=0) hz;simp only [a4O]at h2;have hlt:d<args'.length:=(I5.1 h2).1;right;have h3:(l4 st.H args')[d]?=some (den st.H s):=by rw [b0Q,h2];rfl
    rw [G9,e9 (show d<1000000 by omega),a4q (by simp [o0];exact hlt)];simpa using h3
  · rcases b2a hXn hs with⟨e,rfl,he,hl'⟩|⟨e,rfl,he,hl'⟩
    · rcases hr.T e s hl' with h|h
      · exact .inl h
      · right;rw [G9,e9 (show e<1000000 by omega)]at h;rw [G9,i6 (by simp)];simp only [cx,←hsv];rw [show 1000000+e-E7=e by simp,a8Y (by simp [hXs];exact he)];simpa using h
    · rcases hr.T e s hl' with h|h
      · exact .inl h
      · right;rw [G9,i6 (show¬e<1000000 by omega)]at h;rw [G9,i6 (show¬e+X.nt<1000000 by omega)];simp only [cx,←hsv];rw [b3f (by simp [hXs,E7];omega)];rw [show e+X.nt-E7-a.tmps.toList.length=e-E7 by simp [hXs,E7];omega];exact h
 have hsc:Sim A ⟨a2p 0 args'++O6 X.nt st.T,st.H,st.nk,st.w,st.lo,st.iv⟩ ⟨a0t 0 args++O6 X.nt sy.T,sy.H,sy.nk⟩:=by
  refine⟨fun d x hx=> ?_,hs.H,hs.nk,fun j hj=> ?_,hs.fH⟩
  · simp only [b5l]at hx;split at hx
    · rename_i x' hz;cases hx;obtain⟨_,h2⟩:=a0M hz;simp only [a4O]at h2;obtain⟨s,h3,h4⟩:=ha.get h2;exact .inr ⟨s,by simp only [a2J,a3v (J4 _) (show args'[d-0]?=some s from h3)],h4⟩
    · rcases a9R hXn hx with⟨e,rfl,he,hl'⟩|⟨e,rfl,he,hl'⟩
      · rcases hs.T e x hl' with h|⟨s,h1,h2⟩
        · exact .inl h
        · refine .inr ⟨s, ?_,h2⟩;simp only [a2J,b4b (n:=0) (l:=args') (d:=1000000+e) (.inr (by omega))];rw [a0f,a8l hXn _ he,←a0f];exact h1
      · rcases hs.T e x hl' with h|⟨s,h1,h2⟩
        · exact .inl h
        · refine .inr ⟨s, ?_,h2⟩;simp only [a2J,b4b (n:=0) (l:=args') (d:=e+X.nt) (.inr (by omega))];rw [a0f,b1r hXn _ he,←a0f];exact h1
  · exact c1k (b3n (ha.ment fun q=>a7V hj q)) (b6X (hs.fT j hj))
 have hA2:AG A X'.P w0 bor:=by rw [hP'];exact hA
 obtain⟨st0',hs0,hr0,hb0⟩:=hsub.rel (X:= { X' with sv:=sv}) hA2 hsc hrc
 have hcall:Calls X.P f (l4 st.H args').toArray w fun e w'=>∃v,e= .returned v∧LvY A (cx X w0 bor) st.H w KY (a.put o.dst v) w':=by
  refine calls_of_wp hf hb (hP'▸hbody A w0 bor sv st0' _ w _ hA2 hs0 hr0 fun e st' sy' a' w' hp hk' hs' hlv=> ?_);obtain⟨T,H,nk⟩:=sy'
  have fin:(match V5 X' ⟨T,H,nk⟩ fn.results.toList with
   |some l=>F8 X ⟨F4 X.nt T,H,nk⟩ o.dst (c0y l) fun sy=>F6 sy st1
   |none=>False)→a'.defers= []∧∃v,(results fn a'.tmps).run X.P w'= .ok v w'∧∃v1,Ending.returned v= .returned v1∧LvY A (cx X w0 bor) st.H w KY (a.put o.dst v1) w':=by
   intro hk';cases hres:V5 X' ⟨T,H,nk⟩ fn.results.toList with
   |none=>rw [hres]at hk';exact hk'.elim
   |some l=>
    rw [hres]at hk';simp only at hk';rw [c3U (X:=X') (X':= { X' with sv:=sv}) rfl]at hres
    obtain⟨l',h1,h2⟩:=a2h (w0:=w0) (bor:=bor) hs' hres;have hrun:=a0F (X:=cx { X' with sv:=sv} w0 bor) (by simp only [cx];rw [hP',htt];exact hP.tt) hlv.rel h1
    have hrun:(results fn a'.tmps).run X.P w'= .ok (a7W st'.H l') w':=by rw [←hP'];exact hrun
    have hrd:∃s,d8 (okS A st') st'.w (u6 st') (c0y l) s∧den st'.H s=a7W st'.H l':=by
     match l,l',h2 with
     | [x], [s],h2=>exact⟨s,h2.1,rfl⟩
     | [], [],h2=>exact⟨.tup [],by simp only [c0y,d8];exact .inl ⟨[],rfl,trivial⟩,by simp [den,a7W]⟩
     |x::y::l,x'::y'::l',h2=>exact⟨.tup (x'::y'::l'),by simp only [c0y,d8];exact .inl ⟨_,rfl,h2⟩,by simp [den,a7W]⟩
     | [],_::_,h2=>simp [d9]at h2
     | [_], [],h2=>simp [d9]at h2
     | [_],_::_::_,h2=>simp [d9]at h2
     |_::_::_, [],h2=>simp [d9]at h2
     |_::_::_, [_],h2=>simp [d9]at h2
    obtain⟨s,hrd,hden⟩:=hrd;refine⟨hlv.rel.dfs.trans hd',_,hrun,_,rfl, ?_⟩;have hrl:=hlv.rel
    have hrr:Rel (cx X w0 bor) ⟨F4 X.nt st'.T,st'.H,st'.nk,st'.w,st'.lo,st'.iv⟩ a w':=by
     refine⟨hr.size,fun d s hl=> ?_,hr.dfs,⟨hrl.cls.fx,hrl.cls.fx0,hrl.cls.own,hrl.cls.nd,hrl.cls.lb,hrl.cls.keys,hrl.cls.lt⟩,hrl.lo,hrl.iv⟩;rw [a0f]at hl;by_cases c1:d<X.nt
     · rw [a4K hXn _ c1,←a0f]at hl;rcases hrl.T _ _ hl with h|h
       · exact .inl h
       · right;rw [G9,i6 (by simp)]at h;simp only [cx,←hsv]at h;rw [show 1000000+d-E7=d by simp,a8Y (by simp [hXs];exact c1)]at h;rw [G9,e9 (show d<1000000 by omega)];simpa using h
     · by_cases c2:d<1000000
       · rw [b0I hXn _ c1 c2]at hl;cases hl
       · rw [a6V hXn _ (by omega),←a0f]at hl;rcases hrl.T _ _ hl with h|h
         · exact .inl h
         · right;rw [G9,i6 (show¬d+X.nt<1000000 by omega)]at h;simp only [cx,←hsv]at h;rw [b3f (by simp [hXs,E7];omega)]at h;rw [show d+X.nt-E7-a.tmps.toList.length=d-E7 by simp [hXs,E7];omega]at h;rw [G9,i6 c2];exact h
    have hsr:Sim A ⟨F4 X.nt st'.T,st'.H,st'.nk,st'.w,st'.lo,st'.iv⟩ ⟨F4 X.nt T,H,nk⟩:=by
     refine⟨fun d x hx=> ?_,hs'.H,hs'.nk,fun j hj=>b2s (hs'.fT j hj),hs'.fH⟩;simp only at hx;rw [a5P]at hx;by_cases c1:d<X.nt
     · rw [a4K hXn _ c1,←a5P]at hx;rcases hs'.T _ _ hx with h|⟨s,h1,h2⟩
       · exact .inl h
       · exact .inr ⟨s,by simp only;rw [a0f,a4K hXn _ c1,←a0f];exact h1,h2⟩
     · by_cases c2:d<1000000
       · rw [b0I hXn _ c1 c2]at hx;cases hx
       · rw [a6V hXn _ (by omega),←a5P]at hx;rcases hs'.T _ _ hx with h|⟨s,h1,h2⟩
         · exact .inl h
         · exact .inr ⟨s,by simp only;rw [a0f,a6V hXn _ (by omega),←a0f];exact h1,h2⟩
    obtain⟨st2,⟨sy2,k1,k2⟩,k3,k4⟩:=R4 hrr (y4 (w0:=w0) (bor:=bor) hk' hsr hrd) (v:=a7W st'.H l') (.inr hden.symm);obtain⟨st3,hs3,hr3,hb3⟩:=k1.rel hA k2 k3;refine⟨st3,st1,hk,hs3,hr3,hlv.fx.wide fun b hb=>hb0 b hb,fun b hb=> ?_⟩;have:=hb3 b hb;rw [k4]at this;rcases hlv.bs b this with h|h
    · exact .inl (hb0 b h)
    · exact .inr h
  cases e with
  |normal=>rw [hP'];exact fin hk'
  |ret=>rw [hP'];exact fin hk'
  |exit j=>exact hk'.elim
  |goto l=>exact hp.elim
  |panic c=>exact hp.elim
  |outgrown=>exact hp.elim
 have hbody:=R9 hcall fun e w' ⟨v,he,_⟩=>⟨v,he⟩
 unfold Oper.wp;rw [show(execOp a.eval o).run X.P w=_ from hout w hbody];simp only [Oper.upon];refine hcall.mono fun e w' ⟨v,he,hh⟩=> ?_
 subst he;exact hh
theorem c2Q (hA:AG A X.P w0 bor) (hP:POK X.P X.tt) {o:Oper} {Q:Exit→Act→World→Prop} {KY:Sy→Prop} (hy:y1 X sy o.op (a4J X true sy o.dst KY)) (hs:Sim A st sy) (hr:Rel (cx X w0 bor) st a w):o.wp X.P a w (LvY A (cx X w0 bor) st.H w KY) Q:=by
 have hev:=b8A (X:=X) (w0:=w0) (bor:=bor) (st:=st) (K:=fun out=>∃oy,a6Q st.H (okS A st) st.w (u6 st) oy out∧a4J X true sy o.dst KY oy) (fun oy out h1 h2=>⟨oy,h1,h2⟩) (zOK hP) hs hy;obtain⟨out,⟨oy,hro,hfin⟩,hout⟩:=b4r (X:=cx X w0 bor) hP.tt hP.ng hr.ev (a1V hr.cls) hev;by_cases hcall:∃f args,out= .call f args
 · obtain⟨f,args',rfl⟩:=hcall;cases oy<;>try exact hro.elim
   obtain⟨rfl,hargs⟩:=hro;simp only [a4J]at hfin;split at hfin
   · exact b8o hA hP hr hs hargs hfin hout
   · exact b9X hA hr hs hargs hfin hout
 · have hf:=a3D (w0:=w0) (bor:=bor) hA hfin hro hs (.inr fun f args e=>hcall ⟨f,args,e⟩);refine Oper.wp_mono (fun a' w' hl=> ?_) (c3m (X:=cx X w0 bor) (Q:=Q) hP.tt hf hout hr);obtain⟨st2,⟨sy2,hK2,hs2⟩,hr2,hf0,hb0⟩:=hl;exact⟨st2,sy2,hK2,hs2,hr2,hf0.wide (fun b h=>c1D b h),hb0.bs⟩
theorem c5T (hA:AG A X.P w0 bor) (hP:POK X.P X.tt) {o:Oper} {Q:Exit→Act→World→Prop} {KY:Sy→Prop} (hy:a9d X sy o KY) (hs:Sim A st sy) (hr:Rel (cx X w0 bor) st a w):o.wp X.P a w (LvY A (cx X w0 bor) st.H w KY) Q:=
 c1E hA hP hy (fun _ _ h hs hr=>c2Q hA hP h hs hr) hs hr
theorem a7Z (hA:AG A X.P w0 bor) (hP:POK X.P X.tt) {ops:Array Oper} {Q:Exit→Act→World→Prop}:∀(rest:List Oper) (st:St) (sy:Sy) (a:Act) (w:World) (K:Sy→Prop),b5b X ops.toList rest sy K→Sim A st sy→Rel (cx X w0 bor) st a w→
 (∀st' sy' a' w',K sy'→Sim A st' sy'→Lv (cx X w0 bor) st.H w st' a' w'→Q .normal a' w')→wpList X.P ops Q rest a w
 | [],st,sy,a,w,K,h,hs,hr,hQ=>hQ st sy a w h hs (Lv.refl hr)
 |o::rest,st,sy,a,w,K,h,hs,hr,hQ=>by
  simp only [b5b]at h;have hg:=a8F (yes:=fun st'=>∃sy',Sim A st' sy'∧a9d X sy' o fun st=>b5b X ops.toList rest st K) (no:=fun st'=>∃sy',Sim A st' sy'∧F8 X sy' o.dst .und fun st=>b5b X ops.toList rest st K) h hs (fun st' sy' h1 h2=>⟨sy',h1,h2⟩) (fun st' sy' h1 h2=>⟨sy',h1,h2⟩);obtain⟨st1,hsm,_,hr1,hg⟩:=b1h (X:=cx X w0 bor) hg hr;rw [←hsm.H]at hQ;rcases hg with⟨hw,sy1,hs1,hy⟩|⟨hw,sy1,hs1,hn⟩
  · simp only [wpList,hw,C6];left;exact Oper.wp_mono (fun a' w' ⟨st2,sy2,hK2,hs2,hl2⟩=>a7Z hA hP rest st2 sy2 a' w' K hK2 hs2 hl2.rel fun st' sy' a'' w'' hK' hs' hlv=>hQ st' sy' a'' w'' hK' hs' (Lv.trans hl2 hlv)) (c5T hA hP hy hs1 hr1)
  · simp only [wpList,hw];obtain⟨st2,⟨sy2,hK2,hs2⟩,hr2,hH2⟩:=R4 hr1 (y4 (w0:=w0) (bor:=bor) (s:= .v undef) hn hs1 (by simp only [d8])) (v:=undef) (.inr rfl);exact a7Z hA hP rest st2 sy2 (a.put o.dst undef) w K hK2 hs2 hr2 fun st' sy' a'' w'' hK' hs' hlv=>hQ st' sy' a'' w'' hK' hs' (Lv.trans ⟨hr2,Fx.refl _ _,fun b hb=>by rw [hH2]at hb;exact .inl hb⟩ hlv)
theorem Sim.chA {A A':Nat→Prop} {st:St} {sy:Sy} (h:∀b,okS A st b→okS A' st b) (hs:Sim A st sy):Sim A' st sy:=
 ⟨fun d x hx=>(hs.T d x hx).imp id fun⟨s,h1,h2⟩=>⟨s,h1,d8.mono (fun b hb=>⟨h b hb,rfl⟩) (fun _ _ h=>h) _ _ h2⟩,
  fun k e he=>by obtain⟨e',h1,h2⟩:=hs.H k e he;exact⟨e',h1,a0I.mono (fun b hb=>⟨h b hb,rfl⟩) (fun _ _ h=>h) h2⟩,hs.nk,hs.fT,hs.fH⟩
theorem c2G {iv:List (Nat×Nat)} {b:Nat} (h:a3s iv b):¬∃p,p∈iv∧p.1≤b∧b<p.2:=by
 induction iv with
 |nil=>rintro⟨p,hp,_⟩;cases hp
 |cons q iv ih=>
  obtain⟨n,m⟩:=q;simp only [a3s]at h;rintro⟨p,hp,h1,h2⟩;rcases o5.1 hp with rfl|hp
  · rcases h.1 with h|h<;>simp only at h1 h2<;>omega
  · exact ih h.2 ⟨p,hp,h1,h2⟩
def a6w (E:List Nat):Nat→List (Nat×Nat)
 |0=> []
 |n+1=>match F2 n E with|true=>a6w E n|false=>(n,n+1)::a6w E n
theorem b0P {E:List Nat} {b:Nat} (hb:b∈E):∀n,a3s (a6w E n) b
 |0=>trivial
 |n+1=>by
  simp only [a6w];split
  · exact b0P hb n
  · rename_i h;refine⟨?_,b0P hb n⟩;have:b≠n:=fun e=>by rw [e]at hb;rw [y9.2 hb]at h;cases h
    omega
theorem b2g {E:List Nat}:∀n p,p∈a6w E n→p.1≤p.2∧p.2≤n
 |0,p,h=>by cases h
 |n+1,p,h=>by
  simp only [a6w]at h;split at h
  · have:=b2g n p h;omega
  · rcases o5.1 h with rfl|h
    · simp
    · have:=b2g n p h;omega
theorem b3a {E:List Nat} {b:Nat} (hb:b∉E):∀n,b<n→∃p,p∈a6w E n∧p.1≤b∧b<p.2
 |0,h=>by omega
 |n+1,h=>by
  simp only [a6w];by_cases e:b=n
  · subst e;split
    · rename_i hm;exact absurd (y9.1 hm) hb
    · exact⟨(b,b+1),F5,u0 _,D7 _⟩
  · obtain⟨p,h1,h2⟩:=b3a hb n (by omega);split
    · exact⟨p,h1,h2⟩
    · exact⟨p,A9 _ h1,h2⟩
theorem b6E {ops:List Oper} {l:List Nat} {T:List (Nat×D)} {d:Nat} {x:D} (h:o4 (Z5 .bad ops l T) d=some x) (hx:x≠ .bad):o4 T d=some x∧∀(T':List (Nat×SV)),u1 (Z5 .bad ops l T') d=u1 T' d:=by
 induction l with
 |nil=>exact⟨h,fun _=>rfl⟩
 |cons i l ih=>
  simp only [Z5]at h⊢;split at h
  · split at h
    · rename_i o ho _ _ d' ha hd;simp only [o4]at h;cases hb:Nat.beq d' d with
      |true=>rw [hb]at h;cases h;exact absurd rfl hx
      |false=>
       rw [hb]at h;obtain⟨h1,h2⟩:=ih h;exact⟨h1,fun T'=>by simp only [u1,hb];exact h2 T'⟩
    · exact ih h
  · exact ih h
theorem b5B {j:Nat} {ops:List Oper} {l:List Nat} {T:List (Nat×SV)} (h:o7 j T=true):o7 j (Z5 .bad ops l T)=true:=by
 induction l with
 |nil=>exact h
 |cons i l ih=>
  simp only [Z5];split
  · split
    · simp only [o7,ment];exact ih
    · exact ih
  · exact ih
theorem c6f (hA:AG A X.P w0 bor) (hP:POK X.P X.tt) {o:Oper} {Q:Exit→Act→World→Prop} {j:Nat} {S:List Nat} {KY:Sy→Prop} (hy:y1 X sy o.op (b6x X (j::S) sy o.dst KY)) (hs:Sim A st sy) (hr:Rel (cx X w0 bor) st a w):o.wp X.P a w (LvK A (cx X w0 bor) st.H w KY) Q:=by
 have hev:=b8A (X:=X) (w0:=w0) (bor:=bor) (st:=st) (K:=fun out=>∃oy,a6Q st.H (okS A st) st.w (u6 st) oy out∧b6x X (j::S) sy o.dst KY oy) (fun oy out h1 h2=>⟨oy,h1,h2⟩) (zOK hP) hs hy;obtain⟨out,⟨oy,hro,hfin⟩,hout⟩:=b4r (X:=cx X w0 bor) hP.tt hP.ng hr.ev (a1V hr.cls) hev;cases oy<;>try exact hfin.elim
 cases out<;>try exact hro.elim
 obtain⟨rfl,hargs⟩:=hro;simp only [b6x]at hfin;split at hfin
 · exact b1H hA hr hs hargs (by assumption) hfin hout
 · exact hfin.elim
theorem c6p (hA:AG A X.P w0 bor) (hP:POK X.P X.tt) {o:Oper} {ops:List Oper} {l S:List Nat} {KY:Sy→Prop} {K:St→Prop}
 (hy:y1 X sy o.op (b6x X S sy o.dst fun st=>match st with|⟨T,H,nk⟩=>KY ⟨Z5 .bad ops l T,H,nk⟩)) (hs:Sim A st sy)
 (hK:∀st' sy',KY sy'→Sim A st' sy'→K st'):c5i (cx X w0 bor) o (kpS S) st fun st=>match st with|⟨T,H,nk,w,lo,iv⟩=>K ⟨Z5 .bad ops l T,H,nk,w,lo,iv⟩:=by
 intro E a w hr hE;have hc:=hr.cls
 have hs':Sim (fun b=>A b∧b∉E) (now st w) sy:=by
  have:=hs.chA (A':=fun b=>A b∧b∉E) fun b hb=>⟨⟨hb.1.1,hb.1.2,fun he=>by
   obtain⟨_,h1,h2,_⟩:=hE b he;rcases hb.1.1 with h|h
   · omega
   · exact c2G h2 h⟩,hb.2⟩
  exact this.now hc
 have hr':Rel (cx X w (bs st.H)) (now st w) a w:=
  ⟨hr.size,hr.T,hr.dfs,⟨Fx.refl _ _,Fx.refl _ _,hc.own,hc.nd,fun b hb=> .inl hb,hc.keys,hc.lt⟩,u0 _,by simp [now]⟩
 have hA':AG (fun b=>A b∧b∉E) X.P w (bs st.H):=⟨fun b hb=>by
  refine⟨?_,fun he=> ?_⟩
  · rcases hb with hb|hb
    · exact hA.a b (.inl (r7 hc.fx0.size hb))
    · exact hA.a b (hc.lb b hb).symm
  · obtain⟨h0,_,_,h3⟩:=hE b he;rcases hb with hb|hb
    · omega
    · exact h0 hb,hA.giw hc,fun b hb=>hA.lb hc hb⟩
 obtain⟨N,hN⟩:∃N:Act→World→Prop,N=fun a' w'=>∃st2 sy2,(match sy2 with|⟨T,H,nk⟩=>KY ⟨Z5 .bad ops l T,H,nk⟩)∧Sim (fun b=>A b∧b∉E) st2 sy2∧Lv (cx X w (bs st.H)) (now st w).H w st2 a' w'∧(kpS S=true→(∀i,i<w.heap.size→w'.heap[i]?=w.heap[i]?)∧KB st.H w st2.H):=⟨_,rfl⟩
 have hwp:o.wp X.P a w N (fun _ _ _=>False):=by
  rw [hN];cases S with
  |nil=>exact Oper.wp_mono (fun a' w' ⟨st2,sy2,g1,g2,g3⟩=>⟨st2,sy2,g1,g2,g3,fun h=>by cases h⟩) (c2Q (Q:=fun _ _ _=>False) hA' hP hy hs' hr')
  |cons j S=>exact Oper.wp_mono (fun a' w' ⟨st2,sy2,g1,g2,g3,g4⟩=>⟨st2,sy2,g1,g2,g3,fun _=>g4⟩) (c6f (Q:=fun _ _ _=>False) hA' hP hy hs' hr')
 rcases a7v (X:=cx X w (bs st.H)) (Q:=fun _ _ _=>False) (a:=a) (A:=a) (next:=N) rfl hwp
  (fun _ _ h=>by rw [hN]at h;obtain⟨_,_,_,_,hl,_⟩:=h;exact hl.rel.dfs.trans hr.dfs.symm)with h|⟨_,_,h⟩
 case inr=>exact h.elim
 refine Oper.wp_mono (fun a' w' hh=> ?_) h;rw [hN]at hh;obtain⟨v,hv,st2,sy2,hk,hs2,hl,hkp⟩:=hh;have hrl:=hl.rel;have hs3:=hs2.now hrl.cls;obtain⟨T2,H2,nk2,ws2,lo2,iv2⟩:=st2;obtain⟨T,H,nk⟩:=sy2;have hbs2:∀b,b∈bs H2→b∈bs st.H∨w.heap.size≤b:=hl.bs
 have hok:∀b,okS (fun b=>A b∧b∉E) (now ⟨T2,H2,nk2,ws2,lo2,iv2⟩ w') b→okS A ⟨T2,H2,nk2,w',0,a6w E w'.heap.size⟩ b∧w'.heap[b]?=w'.heap[b]?:=fun b hb=>
  ⟨⟨⟨.inr (b3a hb.1.2.2 _ hb.2.1),hb.1.2.1⟩,hb.2⟩,rfl⟩
 refine⟨v,hv,⟨T2,H2,nk2,w',0,a6w E w'.heap.size⟩, ?_,⟨⟨by subst hv;exact hrl.size,fun d s hd=>by subst hv;exact hrl.T d s hd,by subst hv;exact hrl.dfs,
  ⟨Fx.refl _ _,Fx.trans hc.fx0 hl.fx (fun _ h=>h) fun b hb=>hc.lb b hb,hrl.cls.own,hrl.cls.nd,fun b hb=> ?_,hrl.cls.keys,hrl.cls.lt⟩,J4 _,fun p hp=>b2g _ p hp⟩,hl.fx,hl.bs⟩,fun b hb=>⟨J4 _,b0P hb _⟩,hkp⟩
 · simp only at hk⊢;refine hK _ _ hk ⟨fun d x hx=> ?_,fun k e he=> ?_,hs3.nk,fun j hj=>b5B (hs3.fT j hj),hs3.fH⟩
   · by_cases hbad:x= .bad
     · exact .inl hbad
     · obtain⟨g1,g2⟩:=b6E hx hbad;rcases hs3.T d x g1 with h|⟨s,h1,h2⟩
       · exact .inl h
       · exact .inr ⟨s,by simp only [g2];exact h1,d8.mono hok (fun _ _ h=>h) _ _ h2⟩
   · obtain⟨e',h1,h2⟩:=hs3.H k e he;exact⟨e',h1,a0I.mono hok (fun _ _ h=>h) h2⟩
 · rcases hbs2 b hb with h|h
   · exact hc.lb b h
   · exact .inr (r7 hc.fx0.size h)
theorem X9 (hA:AG A X.P w0 bor) (hP:POK X.P X.tt) {ops:List Oper}:∀(p:PT) {st:St} {sy:Sy} {pr:List (Nat×Option Nat)} {K:Sy→Prop},a4o X ops p sy pr K→Sim A st sy→a1k (cx X w0 bor) ops p st pr fun st'=>∃sy',K sy'∧Sim A st' sy'
 | .nil,st,sy,pr,K,h,hs=>⟨sy,h,hs⟩
 | .fork p q,st,sy,pr,K,h,hs=>⟨X9 hA hP p h.1 hs,X9 hA hP q h.2 hs⟩
 | .op i S fl rest,st,sy,pr,K,h,hs=>by
  simp only [a4o]at h;simp only [a1k];split at h
  · rename_i o ho;rw [ho];refine a8F h hs (fun st' sy' h1 h2=> ?_) (fun st' sy' h1 h2=> ?_)
    · have plain:y1 X sy' o.op (b5P X i S fl pr o sy' fun st pr=>a4o X ops rest st pr K)→ev1 (cx X w0 bor) st' o.op (b6v (cx X w0 bor) i S fl pr o st' fun st pr=>a1k (cx X w0 bor) ops rest st pr fun st'=>∃sy',K sy'∧Sim A st' sy'):=fun h2=>
       b8A (X:=X) (w0:=w0) (bor:=bor) (KY:=b5P X i S fl pr o sy' fun st pr=>a4o X ops rest st pr K) (fun oy out hro hk=>c0t hA hk hro h1 fun st2 sy2 pr hs2 hk2=>X9 hA hP rest hk2 hs2) (zOK hP) h1 h2
      cases hc:X3 o with
      |false=>simp only [b3k,hc]at h2;simp only [a7B,hc];exact plain h2
      |true=>
       cases fl with
       |false=>simp only [b3k,hc]at h2;simp only [a7B,hc];exact plain h2
       |true=>
        simp only [b3k,hc,b0w]at h2;simp only [a7B,hc];exact c6p (KY:=fun st=>a4o X ops rest st pr K) (K:=fun st'=>a1k (cx X w0 bor) ops rest st' pr fun st'=>∃sy',K sy'∧Sim A st' sy') hA hP h2 h1 fun st2 sy2 hk hs2=>X9 hA hP rest hk hs2
    · exact I4 (y4 (w0:=w0) (bor:=bor) (s:= .v undef) h2 h1 (by simp only [d8])) fun st2 ⟨sy2,hk2,hs2⟩=>X9 hA hP rest hk2 hs2
  · exact h.elim
end
mutual
theorem b8h {ok:Nat→Prop} {w:World}:∀(x y:D) (v:Value),leD x y→Rep ok w x v→Rep ok w y v
 | .v x,y,v,h,hr=>by
  simp only [leD]at h;rcases h with rfl|⟨rfl,z,rfl⟩
  · exact hr
  · simp only [Rep]at hr⊢;rw [hr.1];exact⟨none,0,rfl,u0 _,by simp,by simp,rfl, .inl rfl⟩
 | .agg l,y,v,h,hr=>by
  simp only [leD]at h;obtain⟨r,rfl,h⟩:=h;simp only [Rep]at hr⊢;obtain⟨a,h1,h2,h3⟩:=hr;exact⟨a,h1,b0h l r _ h h2,b4R l r h h3⟩
 | .tup l,y,v,h,hr=>by
  simp only [leD]at h;obtain⟨r,rfl,h⟩:=h;simp only [Rep]at hr⊢;obtain⟨a,h1,h2⟩:=hr;exact⟨a,h1,b0h l r _ h h2⟩
 | .lst _ _ _,y,v,h,hr=>by simp only [leD]at h;subst h;exact hr
 | .ptr _ _,y,v,h,hr=>by simp only [leD]at h;subst h;exact hr
 | .mp _,y,v,h,hr=>by simp only [leD]at h;subst h;exact hr
 | .fn _ _ _,y,v,h,hr=>by simp only [leD]at h;subst h;exact hr
 | .own _ _,_,_,_,hr=>by simp [Rep]at hr
 | .ownx _ _,_,_,_,hr=>by simp [Rep]at hr
 | .row _ _,_,_,_,hr=>by simp [Rep]at hr
 | .elr _ _ _ _,_,_,_,hr=>by simp [Rep]at hr
 | .osl _ _ _ _ _,_,_,_,hr=>by simp [Rep]at hr
 | .und,_,_,_,hr=>by simp [Rep]at hr
 | .bad,_,_,_,hr=>by simp [Rep]at hr
theorem b0h {ok:Nat→Prop} {w:World}:∀(l r:List D) (v:List Value),a1P l r→j1 ok w l v→j1 ok w r v
 | [], [],v,_,hr=>hr
 |x::l,y::r,v::vs,h,hr=>by
  simp only [a1P]at h;simp only [j1]at hr⊢;exact⟨b8h x y v h.1 hr.1,b0h l r vs h.2 hr.2⟩
 |_::_,_::_, [],_,hr=>by simp [j1]at hr
 | [],_::_,_,h,_=>by simp [a1P]at h
 |_::_, [],_,h,_=>by simp [a1P]at h
end
mutual
theorem c9l:∀(x:D),leD x x
 | .v x=>by simp only [leD];exact .inl trivial
 | .agg l=>by simp only [leD];exact⟨l,rfl,a1P.refl l⟩
 | .tup l=>by simp only [leD];exact⟨l,rfl,a1P.refl l⟩
 | .lst _ _ _=>by simp only [leD]
 | .ptr _ _=>by simp only [leD]
 | .mp _=>by simp only [leD]
 | .fn _ _ _=>by simp only [leD]
 | .own _ _=>by simp only [leD]
 | .ownx _ _=>by simp only [leD]
 | .row _ _=>by simp only [leD]
 | .elr _ _ _ _=>by simp only [leD]
 | .osl _ _ _ _ _=>by simp only [leD]
 | .und=>by simp only [leD]
 | .bad=>by simp only [leD]
theorem a1P.refl:∀(l:List D),a1P l l
 | []=>trivial
 |x::l=>⟨c9l x,a1P.refl l⟩
end
theorem q8.le {P:Program} {f:FuncId} {args args':List D} {Q:D→Prop} (h:q8 P f args' Q) (hl:a1P args args'):q8 P f args Q:=fun ok w vs hr hok hg=>h ok w vs (b0h _ _ _ hl hr) hok hg
theorem q8.mono {P:Program} {f:FuncId} {args:List D} {Q Q':D→Prop} (h:q8 P f args Q) (hq:∀r,Q r→Q' r):q8 P f args Q':=fun ok w vs hr hok hg=>
 (h ok w vs hr hok hg).mono fun _ _ ⟨v,r,h1,h2,h3⟩=>⟨v,r,h1,hq r h2,h3⟩
section
variable {A : Nat → Prop} {X : Cy} {w0 : World} {bor : List Nat} {st : St} {sy : Sy} {a : Act} {w : World}
theorem a2s (hA:AG A X.P w0 bor) (hP:POK X.P X.tt) (c:Code):∀(st:St) (sy:Sy) (a:Act) (w:World) (K:Exit→Sy→Prop) (Q:Exit→Act→World→Prop),I9 X c sy K→Sim A st sy→Rel (cx X w0 bor) st a w→
 (∀e st' sy' a' w',plain e→K e sy'→Sim A st' sy'→Lv (cx X w0 bor) st.H w st' a' w'→Q e a' w')→c.wp X.P Q a w:=by
 induction c with
 |skip=>exact fun st sy a w K Q h hs hr hQ=>wp_skip (hQ .normal st sy a w trivial h hs (Lv.refl hr))
 |label l=>exact fun st sy a w K Q h hs hr hQ=>wp_label (hQ .normal st sy a w trivial h hs (Lv.refl hr))
 |exit id=>exact fun st sy a w K Q h hs hr hQ=>wp_exit (hQ (.exit id) st sy a w trivial h hs (Lv.refl hr))
 |ret=>exact fun st sy a w K Q h hs hr hQ=>wp_ret (hQ .ret st sy a w trivial h hs (Lv.refl hr))
 |region id ops draw=>
  intro st sy a w K Q h hs hr hQ;cases draw with
  |false=>exact wp_region_list (a7Z hA hP ops.toList _ _ a w _ h hs hr fun st' sy' a' w' hk hs' hl=>hQ .normal st' sy' a' w' trivial hk hs' hl)
  |true=>
   simp only [I9]at h;split at h
   · obtain⟨T,H,nk⟩:=sy;obtain⟨T',H',nk',ws,lo,iv⟩:=st;have hx:=X9 (w0:=w0) (bor:=bor) hA hP _ h.2 (b1W (ops:=ops.toList) hs);exact wp_region_any hP.mix (a1C (X:=cx X w0 bor) hP hr h.1 hx fun st' a' w' ⟨sy',hk,hs'⟩ hl=>hQ .normal st' sy' a' w' trivial hk hs' hl)
   · exact h.elim
 |seq x y ihx ihy=>
  intro st sy a w K Q h hs hr hQ;refine wp_seq (ihx st sy a w _ _ h hs hr fun e st1 sy1 a1 w1 hp hk hs1 hl=> ?_);cases e with
  |normal=>exact ihy st1 sy1 a1 w1 K Q hk hs1 hl.rel fun e st2 sy2 a2 w2 hp hk2 hs2 hl2=>hQ e st2 sy2 a2 w2 hp hk2 hs2 (Lv.trans hl hl2)
  |exit id=>exact hQ _ _ _ _ _ hp hk hs1 hl
  |ret=>exact hQ _ _ _ _ _ hp hk hs1 hl
  |goto l=>exact hp.elim
  |panic c=>exact hp.elim
  |outgrown=>exact hp.elim
 |cond c x y ihx ihy=>
  intro st sy a w K Q h hs hr hQ;simp only [I9]at h;split at h
  · rename_i b hc;obtain⟨s,h1,h2,_⟩:=j9 hs hc;have:=h2.sc;subst this;have hb:a.eval c= .bool b:=by simpa [den]using (hr.ev c _ h1).2
    cases b with
    |true=>exact wp_cond_true hb (ihx st sy a w K Q h hs hr hQ)
    |false=>exact wp_cond_false hb (ihy st sy a w K Q h hs hr hQ)
  · exact h.elim
 |block id c ih=>
  intro st sy a w K Q h hs hr hQ;refine wp_block (ih st sy a w _ _ h hs hr fun e st1 sy1 a1 w1 hp hk hs1 hl=> ?_);cases e with
  |normal=>exact hQ _ _ _ _ _ hp hk hs1 hl
  |exit j=>
   simp only [Exit.inBlock];simp only at hk;split at hk
   · rename_i hb;rw [e9 (r6 hb)];exact hQ .normal _ _ _ _ trivial hk hs1 hl
   · rename_i hb;rw [i6 (a0L hb)];exact hQ _ _ _ _ _ hp hk hs1 hl
  |ret=>exact hQ _ _ _ _ _ hp hk hs1 hl
  |goto l=>exact hp.elim
  |panic c=>exact hp.elim
  |outgrown=>exact hp.elim
 |scope c ih=>
  intro st sy a w K Q h hs hr hQ;refine wp_scope_straight (ih st sy a w K _ h hs hr fun e st1 sy1 a1 w1 hp hk hs1 hl=> ?_);cases e with
  |normal=>exact hQ _ _ _ _ _ hp hk hs1 hl
  |exit j=>exact hQ _ _ _ _ _ hp hk hs1 hl
  |ret=>exact hQ _ _ _ _ _ hp hk hs1 hl
  |goto l=>exact hp.elim
  |panic c=>exact hp.elim
  |outgrown=>exact hp.elim
 |loop c ih=>
  intro st sy a w K Q h hs hr hQ;have h:E5 (I9 X c) sy K:=h;obtain⟨α,f,inv,μ,⟨x0,hsub,hinv⟩,hround⟩:=h.ex;obtain⟨st0,hs0,hr0,hb0⟩:=hsub.rel hA hs hr;refine wp_loop_ghost (fun n a1 w1=>∃x,μ x=n∧inv x∧∃st1,Sim A st1 (f x)∧Lv (cx X w0 bor) st.H w st1 a1 w1) (μ x0) ⟨x0,rfl,hinv,st0,hs0,hr0,Fx.refl _ _,fun b hb=> .inl (hb0 b hb)⟩ ?_;rintro n a1 w1 ⟨x,rfl,hinv1,st1,hs1,hlv⟩;refine ih st1 (f x) a1 w1 _ _ (hround x hinv1) hs1 hlv.rel fun e st2 sy2 a2 w2 hp hk hs2 hl=> ?_
  have hl2:=Lv.trans hlv hl;cases e with
  |normal=>
   obtain⟨y,hsb,hi,hlt⟩:=hk;obtain⟨st3,hs3,hr3,hb3⟩:=hsb.rel hA hs2 hl2.rel;exact⟨μ y,hlt,y,rfl,hi,st3,hs3,hr3,hl2.fx,fun b hb=>hl2.bs b (hb3 b hb)⟩
  |exit j=>exact hQ _ _ _ _ _ hp hk hs2 hl2
  |ret=>exact hQ _ _ _ _ _ hp hk hs2 hl2
  |goto l=>exact hp.elim
  |panic c=>exact hp.elim
  |outgrown=>exact hp.elim
 |_=>intro st sy a w K Q h hs hr hQ;exact h.elim
theorem b1o (hA:AG A X.P w0 bor) {Qr:D→Prop} {r:D} {s:SV} (h:a1b sy r Qr) (hs:Sim A st sy) (hr:Rel (cx X w0 bor) st a w) (hrel:d8 (okS A st) st.w (u6 st) r s):
 ∃r',Qr r'∧Rep (fun b=>A b∧b<w.heap.size) w r' (den st.H s):=by
 have hc:=hr.now.cls;have hs0:=hs.now hr.cls;have h0:d8 (okS A (now st w)) w (u6 (now st w)) r s:=d8.mono (a2Z hr.cls) (fun _ _ h=>h) _ _ hrel;unfold a1b at h;split at h
 · rename_i hcl;obtain⟨r',hle,hq⟩:=h.ex;exact⟨r',hq,b8h _ _ _ hle (Rep.mono (fun b hb=>⟨⟨hb.1.2,hb.2.1⟩,rfl⟩) _ _ (a1U (H:=st.H) _ _ h0 hcl))⟩
 · split at h
   · rename_i sy' r1 hfz;split at h
     · rename_i hcl;obtain⟨r',hle,hq⟩:=h.ex;obtain⟨st1,l1,c1,a1,s1,b1,o1,g1,g2⟩:=a3h (Xx:=cx X w0 bor) hA.a _ hc ⟨rfl,rfl,rfl⟩ hs0 (l:= [r]) (r:= [s]) (by exact⟨h0,trivial⟩) hfz;obtain⟨s1',rfl,g3⟩:=g1.one1;simp only [l4,a2I,and_true]at g2;have g2:den st1.H s1'=den st.H s:=g2;refine⟨r',hq,b8h _ _ _ hle ?_⟩;rw [←g2];exact Rep.mono (fun b hb=>⟨⟨hb.1.2,by have:=hb.2.1;rw [a1.1]at this;exact this⟩,rfl⟩) _ _ (a1U (H:=st1.H) _ _ g3 hcl)
     · exact h.elim
   · exact h.elim
end
theorem c5H {X:Cy} (hP:POK X.P X.tt) {f:FuncId} {fn:Func} {c:Code} (args:List D) {Qr:D→Prop} (hf:X.P.funcs[f]?=some fn) (hb:fn.body=some c) (hn:X.nt=fn.ntmps) (hl:args.length≤fn.ntmps)
 (h:I9 X c ⟨a0t 0 args, [],0⟩ (c0x X fn.results.toList Qr)) (h0:X.dfs= []:=by rfl) (hg:fn.ntmps≤E7:=by exact F7 rfl):q8 X.P f args Qr:=by
 intro ok w vl hrep hok hgi;have hA:=AG.nil ok hgi;refine calls_of_wp hf hb (a2s (A:=fun b=>b<w.heap.size→ok b) (w0:=w) (bor:= []) hA hP c ⟨a2p 0 (vs vl), [],0,w,w.heap.size, []⟩ ⟨a0t 0 args, [],0⟩ _ _ _ _ h ?_ ?_ fun e st' sy' a' w' hp hk hs' hlv=> ?_)
 · refine⟨fun d x hx=> ?_,fun k e he=>by simp [j7]at he,rfl,fun j _=>a2m,fun _ _=>rfl⟩;obtain⟨_,h2⟩:=a0M hx;obtain⟨y,h3,h4⟩:=hrep.get h2;right;refine⟨.v y,a3v (J4 _) ?_,Rep.rel _ _ (Rep.mono (fun b hb=>⟨⟨⟨.inl (hok b hb),fun _=>hb⟩,hok b hb,fun c hc=>by simp [bs]at hc⟩,rfl⟩) _ _ h4)⟩
   have:∀(l:List Value) (j:Nat),(vs l)[j]?=(l[j]?).map .v:=by
    intro l
    induction l with
    |nil=>simp [vs]
    |cons x l ih=>intro j;cases j<;>simp [vs,ih]
   rw [this,h3];rfl
 · refine⟨by simp [cx,hn,←hrep.length];omega,fun d s hs=> ?_,h0.symm,Cls.nil (cx X w []) 0,u0 _,by simp⟩;obtain⟨_,h2⟩:=a0O (n:=0) hs
   have:∀(l:List Value) (j:Nat),(vs l)[j]?=(l[j]?).map .v:=by
    intro l
    induction l with
    |nil=>simp [vs]
    |cons x l ih=>intro j;cases j<;>simp [vs,ih]
   simp only [a4O]at h2;rw [this]at h2;cases hv:vl[d]? with
   |none=>rw [hv]at h2;cases h2
   |some y=>
    rw [hv]at h2;cases h2;right;have hlt:=(I5.1 hv).1;rw [G9,e9 (by have:=hrep.length;omega),a4q (by simpa using hlt)]
    simpa [den]using hv
 · have main:∀ {r:D} {s:SV},a1b sy' r Qr→d8 (okS (fun b=>b<w.heap.size→ok b) st') st'.w (u6 st') r s→(results fn a'.tmps).run X.P w'= .ok (den st'.H s) w'→a'.defers= []∧∃v,(results fn a'.tmps).run X.P w'= .ok v w'∧∃v1 r,Ending.returned v= .returned v1∧Qr r∧Rep (fun b=>ok b∨(w.heap.size≤b∧b<w'.heap.size)) w' r v1∧Below w.heap.size w w':=by
    intro r s hret hrel hrun;obtain⟨r',hq,hrp⟩:=b1o hA hret hs' hlv.rel hrel;refine⟨hlv.rel.dfs.trans h0,_,hrun,_,r',rfl,hq,Rep.mono (fun b hb=>⟨?_,rfl⟩) _ _ hrp,hlv.fx.below⟩;by_cases hlt:b<w.heap.size
    · exact .inl (hb.1 hlt)
    · exact .inr ⟨by omega,hb.2⟩
   have fin:(match V5 X sy' fn.results.toList with
    |some [s]=>a1b sy' s Qr
    |some l=>a1b sy' (.tup l) Qr
    |none=>False)→a'.defers= []∧∃v,(results fn a'.tmps).run X.P w'= .ok v w'∧∃v1 r,Ending.returned v= .returned v1∧Qr r∧Rep (fun b=>ok b∨(w.heap.size≤b∧b<w'.heap.size)) w' r v1∧Below w.heap.size w w':=by
    intro hk;cases hres:V5 X sy' fn.results.toList with
    |none=>rw [hres]at hk;exact hk.elim
    |some l=>
     rw [hres]at hk;obtain⟨l',h1,h2⟩:=a2h (w0:=w) (bor:= []) hs' hres;have hrun:=a0F (X:=cx X w []) hP.tt hlv.rel h1
     match l,l',h2,hk,hrun with
     | [s], [s'],h2,hk,hrun=>exact main hk h2.1 hrun
     | [], [],h2,hk,hrun=>exact main (s:= .tup []) hk (by simp only [d8];exact .inl ⟨[],rfl,trivial⟩) (by simpa [den,a7W,cx]using hrun)
     |x::y::l,x'::y'::l',h2,hk,hrun=>exact main (s:= .tup (x'::y'::l')) hk (by simp only [d8];exact .inl ⟨_,rfl,h2⟩) (by simpa [den,a7W,cx]using hrun)
     | [],_::_,h2,_,_=>simp [d9]at h2
     | [_], [],h2,_,_=>simp [d9]at h2
     | [_],_::_::_,h2,_,_=>simp [d9]at h2
     |_::_::_, [],h2,_,_=>simp [d9]at h2
     |_::_::_, [_],h2,_,_=>simp [d9]at h2
   cases e with
   |normal=>exact fin hk
   |ret=>exact fin hk
   |exit id=>exact hk.elim
   |goto l=>exact hp.elim
   |panic c=>exact hp.elim
   |outgrown=>exact hp.elim
abbrev DI (z:Int):D:= .v (.int .i64 z)
abbrev DB (b:Bool):D:= .v (.bool b)
abbrev lD {α:Type} (z:Nat) (x:List α) (c:α→List D):D:= .lst z x.length (x.flatMap c)
abbrev rE {α:Type} (z:Nat) (x:List α) (c:α→List D) (ty:TypeId):E:= .row z x.length (x.flatMap c) ty
theorem VIf.b {α:Type} {b:Bool} {p q:Prop} {x y r:Option α} (h1:b=true→x=r→p) (h2:b=false→y=r→q):(if b=true then x else y)=r→VIf b p q:=by
 intro h;cases b with
 |true=>exact h1 rfl h
 |false=>exact h2 rfl h
theorem tR {T:List (Nat×D)} {d:Nat} {x:D} (h:o4 T d=some x):∃y,o4 T d=some y∧leD y x:=⟨x,h,c9l x⟩
theorem a7O.refl:∀(l:List D),a7O l l
 | []=>trivial
 |x::l=>by
  have h:=a7O.refl l;cases x<;>simp only [a7O]<;>first|exact h|exact⟨c9l _,h⟩
theorem hR {H:Hy} {k:Nat} {cs:List D} {ty:TypeId} (h:j7 H k=some (.blk cs ty)):∃cs0,j7 H k=some (.blk cs0 ty)∧a7O cs0 cs:=⟨cs,h,a7O.refl cs⟩
theorem hW {H:Hy} {k z m m0:Nat} {l:List D} {ty:TypeId} (h:j7 H k=some (.row z m0 l ty)) (hm:m0=m:=by first|rfl|simp):∃m0 l0,j7 H k=some (.row z m0 l0 ty)∧m0=m∧l0=l:=⟨m0,l,h,hm,rfl⟩
theorem a6l.det {P:Program} {f:FuncId} {args:List D} {st:Sy} {K:Sy→D→Prop} {r:D} (h:q8 P f args fun x=>x=r) (hk:K st r):a6l P f args st K:=⟨⟨_,h,fun x hx=>hx▸hk⟩⟩
theorem a6l.any {P:Program} {f:FuncId} {args:List D} {st:Sy} {K:Sy→D→Prop} {Q:D→Prop} (h:q8 P f args Q) (hk:∀r,Q r→K st r):a6l P f args st K:=⟨⟨_,h,hk⟩⟩
theorem a7o.det {P:Program} {seq:Bool} {f:FuncId} {fa:List D} {st st':Sy} {K:Sy→D→Prop} {r:D} (h:q8 P f fa fun x=>x=r) (hk:match a3c r,seq with
 |true,_=>K st r
 |false,true=>K st' r
 |false,false=>False):a7o P seq f fa st st' K:=⟨⟨_,h,fun x hx=>hx▸hk⟩⟩
theorem y0.pure {r:D}:y0 r fun x=>x=r:=⟨⟨r,c9l r,rfl⟩⟩
theorem y0.eq {r s:D} (h:r=s):y0 r fun x=>x=s:=⟨⟨r,c9l r,h⟩⟩
theorem c9n {r s:D} (h:leD r s):y0 r fun x=>x=s:=⟨⟨s,h,rfl⟩⟩
theorem E5.of {body:Sy→(Exit→Sy→Prop)→Prop} {st:Sy} {K:Exit→Sy→Prop} {α:Type} (f:α→Sy) (inv:α→Prop) (μ:α→Nat) (x0:α) (h0:F6 st (f x0)) (hi:inv x0)
 (h:∀x,inv x→body (f x) fun e st2=>match e with
  | .normal=>∃y,F6 st2 (f y)∧inv y∧μ y<μ x
  |e=>K e st2):E5 body st K:=⟨⟨α,f,inv,μ,⟨x0,h0,hi⟩,h⟩⟩
theorem F6.of {st st':Sy} (n:Nat) (h1:a7U n st'=true) (h2:b1q n st.T st'.T) (h3:a9r n st.H st'.H):F6 st st':=⟨[],st,rfl,⟨.inl ⟨n,h1,h2,h3⟩⟩⟩
theorem F6.fz {st st1 st':Sy} (ks:List Nat) (hf:a2F ks st []=some (st1, [])) (n:Nat) (h1:a7U n st'=true) (h2:b1q n st1.T st'.T) (h3:a9r n st1.H st'.H):F6 st st':=⟨ks,st1,hf,⟨.inl ⟨n,h1,h2,h3⟩⟩⟩
theorem c3N.of {X:Cy} (hP:POK X.P X.tt) {c:Code} {st0:Sy} {K:Exit→Sy→Prop} (h:∀sv,I9 { X with sv:=sv} c st0 K):c3N X c st0 K:=
 fun _ _ _ sv st a w Q hA hs hr hQ=>a2s (X:= { X with sv:=sv}) hA hP c st st0 a w K Q (h sv) hs hr hQ
theorem a6F.ofP {X:Cy} {f:FuncId} {args:List D} {dst:Option Nat} {st:Sy} {K:Sy→Prop} (hP:POK X.P X.tt) (st0 st1:Sy) (pl:List (Nat×PT)) (ln un inl:List Nat) {fn:Func} {c:Code} (hf:X.P.funcs[f]?=some fn) (hb:fn.body=some c)
 (hg:Nat.ble fn.ntmps 1000000=true) (hl:Nat.ble args.length fn.ntmps=true) (hs:F6 ⟨a0t 0 args++O6 X.nt st.T,st.H,st.nk⟩ st0)
 (hbody:∀sv,I9 ⟨X.P,X.tt,fn.ntmps,pl,ln,un, [],inl,sv⟩ c st0 (c3r X ⟨X.P,X.tt,fn.ntmps,pl,ln,un, [],inl, []⟩ fn.results.toList dst fun sy=>F6 sy st1)) (hk:K st1):a6F X f args dst st K:=
 ⟨fn.ntmps,pl,ln,un,inl,fn,c,st0,st1,⟨hf,hb,rfl,hg,hl⟩,hs, .of (X:=⟨X.P,X.tt,fn.ntmps,pl,ln,un, [],inl, []⟩) hP hbody,hk⟩
def gd {α:Type} (p:Prop) [Decidable p] (k:Option α):Option α:=if p then k else none
theorem j2 {α:Type} {p:Prop} [Decidable p] {k:Option α} {r:α} (h:gd p k=some r):p∧k=some r:=by
 unfold gd at h;split at h
 · rename_i hp;exact⟨hp,h⟩
 · cases h
theorem j0 {α β:Type} {o:Option α} {f:α→Option β} {r:β} (h:Option.bind o f=some r):∃x,o=some x∧f x=some r:=by
 cases o with
 |none=>cases h
 |some x=>exact⟨x,rfl,h⟩
def P2 {S E:Type} (body:S→Option (Sum S E)):Nat→S→Option E
 |0,_=>none
 |n+1,s=>match body s with
  |none=>none
  |some (.inl s')=>P2 body n s'
  |some (.inr e)=>some e
def a1K:Nat:=18446744073709551616
def w6 {S E:Type} (body:S→Option (Sum S E)) (s:S):Option E:=P2 body a1K s
theorem c0W {S E:Type} {body:S→Option (Sum S E)} {n:Nat} {s:S} {e:E} (h:P2 body n s=some e):∃m b,n=m+1∧body s=some b∧(match b with| .inl s'=>P2 body m s'=some e| .inr e'=>e'=e):=by
 cases n with
 |zero=>cases h
 |succ n=>
  simp only [P2]at h;cases hb:body s with
  |none=>rw [hb]at h;cases h
  |some b=>
   rw [hb]at h;refine⟨n,b,rfl,rfl, ?_⟩;cases b with
   |inl s'=>exact h
   |inr e'=>cases h;rfl
theorem c9o {S E:Type} {body:Sy→(Exit→Sy→Prop)→Prop} {st:Sy} {K:Exit→Sy→Prop} (L:S→Option (Sum S E)) (f:S→Sy) (s0:S) {ev:E} (h0:F6 st (f s0)) (he:w6 L s0=some ev)
 (h:∀n s b,L s=some b→(match b with| .inl s'=>P2 L n s'=some ev| .inr e'=>e'=ev)→body (f s) fun x st2=>match x with
  | .normal=>∃y:Nat×S,F6 st2 (f y.2)∧P2 L y.1 y.2=some ev∧y.1<n+1
  |x=>K x st2):E5 body st K:=by
 refine E5.of (fun x:Nat×S=>f x.2) (fun x=>P2 L x.1 x.2=some ev) (fun x=>x.1) (a1K,s0) h0 he ?_;rintro⟨n,s⟩ hi;obtain⟨m,b,rfl,hb,hc⟩:=c0W hi;exact h m s b hb hc
def idx {α:Type} (l:List α) (i:Int):Option α:=match decide (0≤i)with|true=>l[i.toNat]?|false=>none
theorem a2l {α:Type} {l:List α} {i:Int} {x:α} (h:idx l i=some x):0≤i∧l[i.toNat]?=some x:=by
 unfold idx at h;split at h
 · rename_i hd;exact⟨of_decide_eq_true hd,h⟩
 · cases h
theorem a0Y {α:Type} {c:α→List D} {z:Nat} (hc:∀x,(c x).length=z) (l:List α):(l.flatMap c).length=l.length*z:=by
 induction l with
 |nil=>simp
 |cons x l ih=>simp [ih,hc,J3,Nat.add_comm]
theorem b4D {α:Type} {c:α→List D} {z:Nat} (hc:∀x,(c x).length=z):∀(l:List α) (i:Nat) {x:α},l[i]?=some x→el (l.flatMap c) z i=c x
 | [],i,x,h=>by simp at h
 |y::l,0,x,h=>by
  simp at h;subst h;simp only [el,Nat.zero_mul,List.drop_zero,L3];rw [b3P (by rw [hc];exact u0 _),b1a (by rw [hc];exact u0 _)]
 |y::l,i+1,x,h=>by
  simp at h;have ih:=b4D hc l i h;simp only [el,L3]at ih⊢;have:(i+1)*z=(c y).length+i*z:=by rw [hc,J3];omega
  rw [this,List.drop_append,List.drop_eq_nil_of_le (by omega)];simpa using ih
theorem c5z {α:Type} {c:α→List D} {z:Nat} {l:List α} {i:Int} {x:α} (hc:∀x,(c x).length=z) (h:idx l i=some x):el (l.flatMap c) z i.toNat=c x∧0≤i∧i<l.length:=by
 obtain⟨h1,h2⟩:=a2l h;have:=(I5.1 h2).1;exact⟨b4D hc l _ h2,h1,by omega⟩
theorem a5r {α:Type} {l:List α} {i:Int} {x:α} (h:idx l i=some x):0≤i∧i<l.length:=by
 obtain⟨h1,h2⟩:=a2l h;have:=(I5.1 h2).1;exact⟨h1,by omega⟩
theorem c2q {α:Type} {c:α→List D} {z:Nat} {l:List α} {i:Int} {x:α} (hc:∀x,(c x).length=z) (h:idx l i=some x):el (l.flatMap c) z i.toNat=c x∧i.toNat<l.length:=by
 obtain⟨h1,h2⟩:=a2l h;exact⟨b4D hc l _ h2,(I5.1 h2).1⟩
theorem b6d {α:Type} {c:α→List D} {z:Nat} (hc:∀x,(c x).length=z):∀(l:List α) (i:Nat) (x:α),i<l.length→a7h (l.flatMap c) z i (c x)=(l.set i x).flatMap c
 | [],i,x,h=>by simp at h
 |y::l,0,x,h=>by
  simp only [a7h,Nat.zero_mul,a9J,Y7,R6,L3,List.set_cons_zero];rw [List.drop_append,List.drop_eq_nil_of_le (by rw [hc];exact u0 _),hc];simp
 |y::l,i+1,x,h=>by
  simp at h;have ih:=b6d hc l i x h;simp only [a7h,L3,List.set_cons_succ]at ih⊢;have e1:(i+1)*z=(c y).length+i*z:=by rw [hc,J3];omega
  have e2:(i+1)*z+z=(c y).length+(i*z+z):=by rw [hc,J3];omega
  rw [e1,←hc y,Nat.add_assoc,List.take_append,List.drop_append,b1a (by omega),List.drop_eq_nil_of_le (by omega)];rw [hc,←ih];simp [a2N]
theorem c4S {α:Type} {c:α→List D} {z:Nat} {l:List α} {i:Int} {x y:α} (hc:∀x,(c x).length=z) (h:idx l i=some x):a7h (l.flatMap c) z i.toNat (c y)=(l.set i.toNat y).flatMap c:=
 b6d hc l _ y (I5.1 (a2l h).2).1
theorem o8 {α:Type} {c:α→List D} {l r:List α}:l.flatMap c++r.flatMap c=(l++r).flatMap c∧l.length+r.length=(l++r).length:=by simp
theorem b3Z {α:Type} {c:α→List D} {z:Nat} (hc:∀x,(c x).length=z):∀(n:Nat) (l:List α),(l.flatMap c).drop (n*z)=(l.drop n).flatMap c
 |0,l=>by simp
 |n+1, []=>by simp
 |n+1,x::l=>by
  have e1:(n+1)*z=(c x).length+n*z:=by rw [hc,J3];omega
  rw [L3,e1,List.drop_append,List.drop_eq_nil_of_le (by omega)];simpa using b3Z hc n l
theorem a8P {α:Type} {c:α→List D} {z:Nat} (hc:∀x,(c x).length=z):∀(n:Nat) (l:List α),(l.flatMap c).take (n*z)=(l.take n).flatMap c
 |0,l=>by simp
 |n+1, []=>by simp
 |n+1,x::l=>by
  have e1:(n+1)*z=(c x).length+n*z:=by rw [hc,J3];omega
  rw [L3,e1,List.take_append,b1a (by omega)];simpa using a8P hc n l
def sub {α:Type} (l:List α) (a b:Nat):List α:=(l.drop a).take (b-a)
theorem V1 {α:Type} {c:α→List D} {z:Nat} (hc:∀x,(c x).length=z) (a b:Nat) (l:List α):((l.flatMap c).drop (a*z)).take ((b-a)*z)=(sub l a b).flatMap c:=by
 rw [b3Z hc,a8P hc];rfl
theorem a0P {α:Type} {l:List α} {a b:Nat} (h:b≤l.length):(sub l a b).length=b-a:=by simp [sub];omega
theorem leD.eq {x y:D} (h:x=y):leD x y:=h▸c9l x
theorem a1P.eq {x y:List D} (h:x=y):a1P x y:=h▸a1P.refl x
theorem c9m {z:Nat}:leD (.v (.slice none 0 0)) (.lst z 0 []):=by simp only [leD];exact .inr ⟨trivial,z,rfl⟩
abbrev cI (x:Int):List D:= [DI x]
abbrev cB (x:Bool):List D:= [DB x]
theorem a5o (l:List Value) (j:Nat):(vs l)[j]?=(l[j]?).map .v:=by
 induction l generalizing j with
 |nil=>simp [vs]
 |cons x l ih=>cases j<;>simp [vs,ih]
structure c7O (e:E) (z' z n:Nat) (l:List D) (ty:TypeId):Prop where
 ex:e= .row z n l ty∧z'=z
def b0B (st:Sy) (z n:Nat) (l:List D) (ty:TypeId) (r:D):Prop:=
 match r with
 | .row k z'=>match j7 st.H k with
  |some e=>c7O e z' z n l ty
  |none=>False
 | .v (.slice none 0 0)=>n=0∧l= []
 |_=>False
def b6D (X:Cy) (rs:List ResultVar) (z n:Nat) (l:List D) (ty:TypeId) (e:Exit) (st:Sy):Prop:=
 match e with
 | .normal=>match V5 X st rs with
  |some [s]=>b0B st z n l ty s
  |_=>False
 | .ret=>match V5 X st rs with
  |some [s]=>b0B st z n l ty s
  |_=>False
 |_=>False
section
variable {A : Nat → Prop} {X : Cy} {w0 : World} {bor : List Nat} {st : St} {sy : Sy} {a : Act} {w : World}
theorem c4q {z n:Nat} {l:List D} {ty:TypeId} {r:D} {s:SV} (h:b0B sy z n l ty r) (hs:Sim A st sy) (hr:Rel (cx X w0 bor) st a w) (hrel:d8 (okS A st) st.w (u6 st) r s):
 a7N (fun b=>(A b∧b<w.heap.size)∧b∉n9 (den st.H s)) w z n l ty (den st.H s)∧∀b,b∈n9 (den st.H s)→b∈bor∨w0.heap.size≤b:=by
 unfold b0B at h;split at h
 · rename_i k z';split at h
   · rename_i e he;obtain⟨rfl,rfl⟩:=h.ex;simp only [d8]at hrel;obtain⟨rfl,_⟩:=hrel;obtain⟨e',hf',hre⟩:=hs.H _ _ he;cases e' with
     |blk=>exact hre.elim
     |mp=>exact hre.elim
     |row v n1 xs z1 ty1=>
      obtain⟨rfl,rfl,rfl,hrep,hfl,hlen⟩:=hre;have hdv:den st.H (.row k)=v:=by simp [den,l3,hf']
      rw [hdv];have hb:∀b,b∈n9 v→b∈bs st.H:=fun b hb=>u2.2 ⟨k,_,l5 hf',hb⟩
      refine⟨⟨xs,hr.cls.row hf',j1.mono (fun b hbk=> ?_) _ _ hrep,hfl,hlen⟩,fun b hbv=>hr.cls.lb b (hb b hbv)⟩;have h2:=(a2Z hr.cls) b hbk;exact⟨⟨⟨hbk.1.2,h2.1.2.1⟩,fun hc=>hbk.2.2 b (hb b hc) rfl⟩,h2.2⟩
   · exact h.elim
 · obtain⟨rfl,rfl⟩:=h;simp only [d8]at hrel;obtain⟨rfl,_⟩:=hrel;exact⟨⟨[],World.ownsRow_nil _ _ _ _,by simp [j1],rfl,by simp⟩,by simp [den,n9]⟩
 · exact h.elim
theorem b9F (hP:POK X.P X.tt) {fn:Func} {z n:Nat} {l:List D} {ty:TypeId} {e:Exit} {R:Ending→World→Prop} (hp:plain e) (h:b6D X fn.results.toList z n l ty e sy) (hs:Sim A st sy) (hr:Rel (cx X w0 bor) st a w)
 (hR:∀v,a7N (fun b=>(A b∧b<w.heap.size)∧b∉n9 v) w z n l ty v→(∀b,b∈n9 v→b∈bor∨w0.heap.size≤b)→R (.returned v) w) (h0:X.dfs= []):bodyPost X.P fn R e a w:=by
 have fin:(match V5 X sy fn.results.toList with
  |some [s]=>b0B sy z n l ty s
  |_=>False)→a.defers= []∧∃v,(results fn a.tmps).run X.P w= .ok v w∧R (.returned v) w:=by
  intro hk;cases hres:V5 X sy fn.results.toList with
  |none=>rw [hres]at hk;exact hk.elim
  |some l0=>
   rw [hres]at hk;obtain⟨l',h1,h2⟩:=a2h (w0:=w0) (bor:=bor) hs hres;have hrun:=a0F (X:=cx X w0 bor) hP.tt hr h1
   match l0,l',h2,hk,hrun with
   | [s], [s'],h2,hk,hrun=>
    obtain⟨g1,g2⟩:=c4q hk hs hr h2.1;exact⟨hr.dfs.trans h0,_,hrun,hR _ g1 g2⟩
   | [_], [],h2,_,_=>simp [d9]at h2
   | [_],_::_::_,h2,_,_=>simp [d9]at h2
 cases e with
 |normal=>exact fin h
 |ret=>exact fin h
 |exit id=>exact h.elim
 |goto l=>exact hp.elim
 |panic c=>exact hp.elim
 |outgrown=>exact hp.elim
end
theorem c6d {X:Cy} (hP:POK X.P X.tt) {f:FuncId} {fn:Func} {c:Code} (args:List D) {z n:Nat} {l:List D} {ty:TypeId} (hf:X.P.funcs[f]?=some fn) (hb:fn.body=some c) (hn:X.nt=fn.ntmps) (hl:args.length≤fn.ntmps)
 (h:I9 X c ⟨a0t 0 args, [],0⟩ (b6D X fn.results.toList z n l ty)) (h0:X.dfs= []:=by rfl) (hg:fn.ntmps≤E7:=by exact F7 rfl):b3j X.P f args z n l ty:=by
 intro ok w vl hrep hok hgi;have hA:=AG.nil ok hgi;refine calls_of_wp hf hb (a2s (A:=fun b=>b<w.heap.size→ok b) (w0:=w) (bor:= []) hA hP c ⟨a2p 0 (vs vl), [],0,w,w.heap.size, []⟩ ⟨a0t 0 args, [],0⟩ _ _ _ _ h ?_ ?_ fun e st' sy' a' w' hp hk hs' hlv=> ?_)
 · refine⟨fun d x hx=> ?_,fun k e he=>by simp [j7]at he,rfl,fun j _=>a2m,fun _ _=>rfl⟩;obtain⟨_,h2⟩:=a0M hx;obtain⟨y,h3,h4⟩:=hrep.get h2;right;refine⟨.v y,a3v (J4 _) ?_,Rep.rel _ _ (Rep.mono (fun b hb=>⟨⟨⟨.inl (hok b hb),fun _=>hb⟩,hok b hb,fun c hc=>by simp [bs]at hc⟩,rfl⟩) _ _ h4)⟩;rw [a5o,h3];rfl
 · refine⟨by simp [cx,hn,←hrep.length];omega,fun d s hs=> ?_,h0.symm,Cls.nil (cx X w []) 0,u0 _,by simp⟩;obtain⟨_,h2⟩:=a0O (n:=0) hs;simp only [a4O]at h2;rw [a5o]at h2;cases hv:vl[d]? with
   |none=>rw [hv]at h2;cases h2
   |some y=>
    rw [hv]at h2;cases h2;right;have hlt:=(I5.1 hv).1;rw [G9,e9 (by have:=hrep.length;omega),a4q (by simpa using hlt)]
    simpa [den]using hv
 · refine b9F hP hp hk hs' hlv.rel (fun v hrow hbl=>⟨v,rfl,fun b hb=> ?_, ?_,hlv.fx.below⟩) h0
   · rcases hbl b hb with h|h
     · cases h
     · exact h
   · obtain⟨xs,h1,h2,h3,h4⟩:=hrow;refine⟨xs,h1,j1.mono (fun b hbk=>⟨⟨?_,hbk.2⟩,rfl⟩) _ _ h2,h3,h4⟩;by_cases hlt:b<w.heap.size
     · exact .inl (hbk.1.1 hlt)
     · exact .inr ⟨by omega,hbk.1.2⟩
def a0h:List D→List Nat
 | []=> []
 | .row k _::l=>k::a0h l
 |_::l=>a0h l
def b5d (H:Hy):Nat→List (Nat×Nat×List D×TypeId)→List D→List D→Prop
 |_,rows, [], []=>rows= []
 |i,(z,n,l,ty)::rows, .row j z'::cells, .row k z''::cs=>(j=i∧z'=z∧z''=z∧j7 H k=some (.row z n l ty))∧b5d H (i+1) rows cells cs
 |i,(z,n,l,ty)::rows, .row j z'::cells, .v (.slice none 0 0)::cs=>(j=i∧z'=z∧n=0∧l= [])∧b5d H (i+1) rows cells cs
 |i,rows,d::cells,c::cs=>(Q5 c=true∧c=d)∧b5d H i rows cells cs
 |_,_,_,_=>False
def c1z (st:Sy) (rows:List (Nat×Nat×List D×TypeId)) (cells:List D):D→Prop
 | .agg cs=>ndB (a0h cs)=true∧b5d st.H 0 rows cells cs
 |_=>False
def c1Y (X:Cy) (rs:List ResultVar) (rows:List (Nat×Nat×List D×TypeId)) (cells:List D) (e:Exit) (st:Sy):Prop:=
 match e with
 | .normal=>match V5 X st rs with
  |some [s]=>c1z st rows cells s
  |_=>False
 | .ret=>match V5 X st rs with
  |some [s]=>c1z st rows cells s
  |_=>False
 |_=>False
section
variable {A : Nat → Prop} {X : Cy} {w0 : World} {bor : List Nat} {st : St} {sy : Sy} {a : Act} {w : World}
theorem b0q (hs:Sim A st sy) (hr:Rel (cx X w0 bor) st a w):∀(cs:List D) (i:Nat) (rows:List (Nat×Nat×List D×TypeId)) (cells:List D) (ss:List SV),b5d sy.H i rows cells cs→d9 (okS A st) st.w (u6 st) cs ss→
 ∃rv:List Value,(∀b,b∈rv.flatMap n9→∃k e,k∈a0h cs∧e8 st.H k=some e∧b∈bsE e)∧((a0h cs).Nodup→(rv.flatMap n9).Nodup)∧a1f (fun b=>(A b∧b<w.heap.size)∧b∉bs st.H) w rows rv∧
  ∀pre:List Value,pre.length=i→M2 (fun b=>(A b∧b<w.heap.size)∧b∉bs st.H) w (pre++rv) cells (l4 st.H ss)
 | [],i,rows,cells,ss,h,hrel=>by
  cases cells with
  |cons d cells=>simp [b5d]at h
  |nil=>
   simp only [b5d]at h;subst h;cases ss with
   |cons=>simp [d9]at hrel
   |nil=>exact⟨[],by simp,fun _=>by simp,trivial,fun _ _=>trivial⟩
 |c::cs,i,rows,cells,ss,h,hrel=>by
  cases ss with
  |nil=>simp [d9]at hrel
  |cons s ss=>
   simp only [d9]at hrel;obtain⟨h1,h2⟩:=hrel;unfold b5d at h;split at h
   · rename_i heq;cases heq
   · rename_i z n l ty rows j z' cells k z'' cs' heq;cases heq;obtain⟨⟨rfl,rfl,rfl,hk⟩,h⟩:=h;simp only [d8]at h1;obtain⟨rfl,_⟩:=h1;obtain⟨rv,g1,g2,g3,g4⟩:=b0q hs hr cs (j+1) rows cells ss h h2;obtain⟨e',hf',hre⟩:=hs.H _ _ hk;cases e' with
     |blk=>exact hre.elim
     |mp=>exact hre.elim
     |row v n1 xs z1 ty1=>
      obtain⟨rfl,rfl,rfl,hrep,hfl,hlen⟩:=hre;have hdv:den st.H (.row k)=v:=by simp [den,l3,hf']
      refine⟨v::rv,fun b hb=> ?_,fun hn=> ?_,⟨⟨xs,hr.cls.row hf',j1.mono (fun b hbk=> ?_) _ _ hrep,hfl,hlen⟩,g3⟩,fun pre hp=> ?_⟩
      · simp only [L3,B2]at hb;rcases hb with hb|hb
        · exact⟨k,_,by simp [a0h],hf',hb⟩
        · obtain⟨k',e,q1,q2,q3⟩:=g1 b hb;exact⟨k',e,by simp [a0h,q1],q2,q3⟩
      · simp only [a0h,a1r]at hn;simp only [L3,a3z];refine⟨a3P v,g2 hn.2,fun b hb b' hb' heq=> ?_⟩;subst heq;obtain⟨k',e,q1,q2,q3⟩:=g1 b hb';have hne:k≠k':=fun e=>hn.1 (e▸q1)
        exact a1s hr.cls.nd hr.cls.keys (l5 hf') (l5 q2) hne hb q3
      · have h3:=(a2Z hr.cls) b hbk;exact⟨⟨⟨hbk.1.2,h3.1.2.1⟩,fun hc=>hbk.2.2 b hc rfl⟩,h3.2⟩
      · have h5:=g4 (pre++ [v]) (by simp [hp]);rw [a2N,a9s]at h5;simp only [l4,hdv,M2];exact⟨by rw [b3f (by omega),←hp];simp,h5⟩
   · rename_i z n l ty rows j z' cells cs' heq;cases heq;obtain⟨⟨rfl,rfl,rfl,rfl⟩,h⟩:=h;simp only [d8]at h1;obtain⟨rfl,_⟩:=h1;obtain⟨rv,g1,g2,g3,g4⟩:=b0q hs hr cs (j+1) rows cells ss h h2;refine⟨.slice none 0 0::rv,fun b hb=> ?_,fun hn=> ?_,⟨⟨[],World.ownsRow_nil _ _ _ _,by simp [j1],rfl,by simp⟩,g3⟩,fun pre hp=> ?_⟩
     · simp only [L3,n9,Y7]at hb;exact g1 b hb
     · simpa [n9]using g2 hn
     · have h5:=g4 (pre++ [.slice none 0 0]) (by simp [hp]);rw [a2N,a9s]at h5;simp only [l4,den,M2];exact⟨by rw [b3f (by omega),←hp];simp,h5⟩
   · rename_i heq;cases heq;obtain⟨⟨hcl,rfl⟩,h⟩:=h;obtain⟨rv,g1,g2,g3,g4⟩:=b0q hs hr cs _ _ _ ss h h2
     have hkeys:a0h (c::cs)=a0h cs:=by
      cases c<;>first|rfl|simp [Q5]at hcl
     have hrc:=Rep.mono (w':=w) (ok':=fun b=>(A b∧b<w.heap.size)∧b∉bs st.H) (fun b hb=>by
      have h3:=(a2Z hr.cls) b hb;exact⟨⟨⟨hb.1.2,h3.1.2.1⟩,fun hc=>hb.2.2 b hc rfl⟩,h3.2⟩) _ _ (a1U (H:=st.H) _ _ h1 hcl)
     refine⟨rv,by rw [hkeys];exact g1,by rw [hkeys];exact g2,g3,fun pre hp=> ?_⟩;have h5:=g4 pre hp;cases c<;>first|(simp only [l4,M2];exact⟨hrc,h5⟩)|simp [Q5]at hcl
   · exact h.elim
theorem c7d (hP:POK X.P X.tt) {fn:Func} {rows:List (Nat×Nat×List D×TypeId)} {cells:List D} {e:Exit} {R:Ending→World→Prop} (hp:plain e) (h:c1Y X fn.results.toList rows cells e sy) (hs:Sim A st sy) (hr:Rel (cx X w0 bor) st a w)
 (hR:∀(av rv:List Value),(∀b,b∈rv.flatMap n9→b∈bs st.H)→(rv.flatMap n9).Nodup→a1f (fun b=>(A b∧b<w.heap.size)∧b∉bs st.H) w rows rv→M2 (fun b=>(A b∧b<w.heap.size)∧b∉bs st.H) w rv cells av→R (.returned (.agg av.toArray)) w) (h0:X.dfs= []):bodyPost X.P fn R e a w:=by
 have fin:(match V5 X sy fn.results.toList with
  |some [s]=>c1z sy rows cells s
  |_=>False)→a.defers= []∧∃v,(results fn a.tmps).run X.P w= .ok v w∧R (.returned v) w:=by
  intro hk;cases hres:V5 X sy fn.results.toList with
  |none=>rw [hres]at hk;exact hk.elim
  |some l0=>
   rw [hres]at hk;obtain⟨l',h1,h2⟩:=a2h (w0:=w0) (bor:=bor) hs hres;have hrun:=a0F (X:=cx X w0 bor) hP.tt hr h1
   match l0,l',h2,hk,hrun with
   | [s], [s'],h2,hk,hrun=>
    cases s with
    |agg cs=>
     obtain⟨hn,hk⟩:ndB (a0h cs)=true∧b5d sy.H 0 rows cells cs:=hk;have h3:=h2.1;simp only [d8]at h3;obtain⟨ss,hag,h3,_⟩:=h3;obtain⟨rv,g1,g2,g3,g4⟩:=b0q hs hr cs 0 rows cells ss hk h3;have hd:den st.H s'= .agg (l4 st.H ss).toArray:=b0N hag;refine⟨hr.dfs.trans h0,_,hrun, ?_⟩;rw [show a7W st.H [s']=den st.H s' from rfl,hd];exact hR _ rv (fun b hb=>by obtain⟨k,e,_,q2,q3⟩:=g1 b hb;exact u2.2 ⟨k,e,l5 q2,q3⟩) (g2 (b2W hn)) g3 (g4 [] rfl)
    |_=>exact hk.elim
   | [_], [],h2,_,_=>simp [d9]at h2
   | [_],_::_::_,h2,_,_=>simp [d9]at h2
 cases e with
 |normal=>exact fin h
 |ret=>exact fin h
 |exit id=>exact h.elim
 |goto l=>exact hp.elim
 |panic c=>exact hp.elim
 |outgrown=>exact hp.elim
end
theorem M2.mono {ok ok':Nat→Prop} {w:World} {rv:List Value} (hm:∀b,ok b→ok' b):∀(cells:List D) (a:List Value),M2 ok w rv cells a→M2 ok' w rv cells a
 | [], [],_=>trivial
 | [],_::_,h=>by simp [M2]at h
 |d::cells, [],h=>by cases d<;>simp [M2]at h
 |d::cells,y::a,h=>by
  cases d<;>simp only [M2]at h⊢
  case row=>exact⟨h.1,M2.mono hm cells a h.2⟩
  all_goals exact⟨Rep.mono (fun b hb=>⟨hm b hb,rfl⟩) _ _ h.1,M2.mono hm cells a h.2⟩
theorem a1f.mono {ok ok':Nat→Prop} {w:World} (hm:∀b,ok b→ok' b):∀(rows:List (Nat×Nat×List D×TypeId)) (rv:List Value),a1f ok w rows rv→a1f ok' w rows rv
 | [], [],_=>trivial
 | [],_::_,h=>by simp [a1f]at h
 |_::_, [],h=>by simp [a1f]at h
 |(z,n,l,ty)::rows,v::rv,h=>by
  simp only [a1f]at h⊢;obtain⟨⟨xs,h1,h2,h3⟩,h4⟩:=h;exact⟨⟨xs,h1,j1.mono (fun b hb=>⟨hm b hb,rfl⟩) _ _ h2,h3⟩,a1f.mono hm rows rv h4⟩
theorem c6k {X:Cy} (hP:POK X.P X.tt) {f:FuncId} {fn:Func} {c:Code} (args:List D) {rows:List (Nat×Nat×List D×TypeId)} {cells:List D} (hf:X.P.funcs[f]?=some fn) (hb:fn.body=some c) (hn:X.nt=fn.ntmps) (hl:args.length≤fn.ntmps) (hfl:u7 cells=true)
 (h:I9 X c ⟨a0t 0 args, [],0⟩ (c1Y X fn.results.toList rows cells)) (h0:X.dfs= []:=by rfl) (hg:fn.ntmps≤E7:=by exact F7 rfl):b6O X.P f args rows cells:=by
 refine⟨hfl,fun ok w vl hrep hok hgi=> ?_⟩;have hA:=AG.nil ok hgi;refine calls_of_wp hf hb (a2s (A:=fun b=>b<w.heap.size→ok b) (w0:=w) (bor:= []) hA hP c ⟨a2p 0 (vs vl), [],0,w,w.heap.size, []⟩ ⟨a0t 0 args, [],0⟩ _ _ _ _ h ?_ ?_ fun e st' sy' a' w' hp hk hs' hlv=> ?_)
 · refine⟨fun d x hx=> ?_,fun k e he=>by simp [j7]at he,rfl,fun j _=>a2m,fun _ _=>rfl⟩;obtain⟨_,h2⟩:=a0M hx;obtain⟨y,h3,h4⟩:=hrep.get h2;right;refine⟨.v y,a3v (J4 _) ?_,Rep.rel _ _ (Rep.mono (fun b hb=>⟨⟨⟨.inl (hok b hb),fun _=>hb⟩,hok b hb,fun c hc=>by simp [bs]at hc⟩,rfl⟩) _ _ h4)⟩;rw [a5o,h3];rfl
 · refine⟨by simp [cx,hn,←hrep.length];omega,fun d s hs=> ?_,h0.symm,Cls.nil (cx X w []) 0,u0 _,by simp⟩;obtain⟨_,h2⟩:=a0O (n:=0) hs;simp only [a4O]at h2;rw [a5o]at h2;cases hv:vl[d]? with
   |none=>rw [hv]at h2;cases h2
   |some y=>
    rw [hv]at h2;cases h2;right;have hlt:=(I5.1 hv).1;rw [G9,e9 (by have:=hrep.length;omega),a4q (by simpa using hlt)]
    simpa [den]using hv
 · refine c7d hP hp hk hs' hlv.rel (fun av rv hrb hnd hrows hcells=> ?_) h0
   have hbs:∀b,b∈rv.flatMap n9→w.heap.size≤b∧b<w'.heap.size:=fun b hb=>by
    have h1:=hrb b hb;rcases hlv.rel.cls.lb b h1 with h|h
    · cases h
    · exact⟨h,hlv.rel.cls.lt_size h1⟩
   have hmono:∀b,((fun b=>b<w.heap.size→ok b) b∧b<w'.heap.size)∧b∉bs st'.H→(ok b∨(w.heap.size≤b∧b<w'.heap.size))∧b∉rv.flatMap n9:=fun b hb1=>by
    refine⟨?_,fun hc=>hb1.2 (hrb b hc)⟩;by_cases hlt:b<w.heap.size
    · exact .inl (hb1.1.1 hlt)
    · exact .inr ⟨by omega,hb1.1.2⟩
   exact⟨av,rv,rfl,hbs,hnd,hrows.mono hmono,hcells.mono hmono,hlv.fx.below⟩
theorem b8k {X:Cy} {ok:Nat→Prop} {w:World} {v:Value} {vl:List Value} {z n:Nat} {l:List D} {ty:TypeId} {args:List D} {xs:List Value} {fn:Func} (hn:X.nt=fn.ntmps) (hl:args.length+1≤fn.ntmps)
 (hown:w.ownsRow 0 ty z v n xs) (hrl:j1 ok w l xs) (hfl:u7 l=true) (hlen:l.length=n*z) (hnok:∀b,b∈n9 v→¬ok b) (hrep:j1 ok w args vl) (hok:∀b,ok b→b<w.heap.size) (h0:X.dfs= []) (hg:fn.ntmps≤E7):
 Sim (fun b=>b<w.heap.size→ok b∨b∈n9 v) ⟨a2p 0 (.row 0::vs vl), [(0, .row v n xs z ty)],1,w,w.heap.size, []⟩ ⟨a0t 0 (.row 0 z::args), [(0, .row z n l ty)],1⟩∧
 Rel (cx X w (n9 v)) ⟨a2p 0 (.row 0::vs vl), [(0, .row v n xs z ty)],1,w,w.heap.size, []⟩ { tmps:=((v::vl).toArray++Array.replicate (fn.ntmps-(v::vl).toArray.size) undef),defers:= []} w:=by
 have hbs:bs [(0,Ent.row v n xs z ty)]=n9 v:=by simp [bs,bsE]
 have hoks:∀b,ok b→okS (fun b=>b<w.heap.size→ok b∨b∈n9 v) ⟨a2p 0 (.row 0::vs vl), [(0, .row v n xs z ty)],1,w,w.heap.size, []⟩ b∧w.heap[b]?=w.heap[b]?:=fun b hb=>
  ⟨⟨⟨.inl (hok b hb),fun _=> .inl hb⟩,hok b hb,fun c hc e=>by simp only [hbs]at hc;exact hnok c hc (e▸hb)⟩,rfl⟩
 constructor
 · refine⟨fun d x hx=> ?_,fun k e he=> ?_,rfl,fun j hj=> ?_,fun j hj=>rfl⟩
   · obtain⟨_,h2⟩:=a0M hx;simp only [a4O]at h2;right;cases d with
     |zero=>
      simp at h2;subst h2;refine⟨.row 0,rfl, ?_⟩;simp only [d8];exact⟨trivial,by simp only;omega,fun _=>⟨_,rfl,rfl⟩⟩
     |succ d=>
      simp at h2;obtain⟨y,h3,h4⟩:=hrep.get h2;refine⟨.v y,a3v (J4 _) ?_,Rep.rel _ _ (Rep.mono hoks _ _ h4)⟩;simp [a5o,h3]
   · simp only [j7]at he;cases hb:Nat.beq 0 k with
     |false=>rw [hb]at he;cases he
     |true=>
      rw [hb]at he;cases he;have:=r6 hb;subst this;exact⟨_,rfl,by exact⟨rfl,rfl,rfl,j1.mono hoks _ _ hrl,hfl,hlen⟩⟩
   · simp only at hj;have hb:Nat.beq 0 j=false:=J2 (by omega);simp only [a2p,o7,ment,hb];exact a2m
 · refine⟨by simp [cx,hn,←hrep.length];omega,fun d s hs=> ?_,h0.symm, ?_,u0 _,by simp⟩
   · obtain⟨_,h2⟩:=a0O (n:=0) hs;simp only [a4O]at h2;right;cases d with
     |zero=>
      simp at h2;subst h2;show G9 _ _ 0=some v;rw [G9,e9 (by decide),a4q (by simp)];simp
     |succ d=>
      simp only [List.getElem?_cons_succ,a5o]at h2;cases hv:vl[d]? with
      |none=>rw [hv]at h2;cases h2
      |some y=>
       rw [hv]at h2;cases h2;have hlt:=(I5.1 hv).1;rw [G9,e9 (by have:=hrep.length;omega),a4q (by simp;omega)];simpa [den]using hv
   · refine⟨Fx.refl _ _,Fx.refl _ _,fun k e hm=> ?_,by rw [hbs];exact a3P v,fun b hb=> ?_,by simp,fun k e hm=> ?_⟩
     · simp at hm;obtain⟨rfl,rfl⟩:=hm;exact hown
     · rw [hbs]at hb;exact .inl hb
     · simp at hm;obtain⟨rfl,rfl⟩:=hm;exact Nat.zero_lt_one
def b9e (X:Cy):Nat→Code→Sy→(Exit→Sy→Prop)→(Sy→Prop)→Prop
 |0,_,st,_,KT=>KT st
 |n+1, .seq a b,st,K,KT=>I9 X a st fun e st'=>match e with
  | .normal=>b9e X n b st' K KT
  |e=>K e st'
 |_,_,_,_,_=>False
def b6k:Nat→Code→Code
 |0,c=>c
 |n+1, .seq _ b=>b6k n b
 |_,c=>c
section
variable {A : Nat → Prop} {X : Cy} {w0 : World} {bor : List Nat} {Q : Exit → Act → World → Prop}
theorem b6B (hA:AG A X.P w0 bor) (hP:POK X.P X.tt):∀(n:Nat) (c:Code) (st:St) (sy:Sy) (a:Act) (w:World) (K:Exit→Sy→Prop) (KT:Sy→Prop),b9e X n c sy K KT→Sim A st sy→Rel (cx X w0 bor) st a w→
 (∀e st' sy' a' w',plain e→K e sy'→Sim A st' sy'→Lv (cx X w0 bor) st.H w st' a' w'→Q e a' w')→
 (∀st' sy' a' w',KT sy'→Sim A st' sy'→Lv (cx X w0 bor) st.H w st' a' w'→(b6k n c).wp X.P Q a' w')→c.wp X.P Q a w
 |0,c,st,sy,a,w,K,KT,h,hs,hr,_,hT=>hT st sy a w h hs (Lv.refl hr)
 |n+1,c,st,sy,a,w,K,KT,h,hs,hr,hQ,hT=>by
  cases c with
  |seq x y=>
   refine wp_seq (a2s hA hP x st sy a w _ _ h hs hr fun e st1 sy1 a1 w1 hp hk hs1 hl=> ?_);cases e with
   |normal=>exact b6B hA hP n y st1 sy1 a1 w1 K KT hk hs1 hl.rel (fun e st' sy' a' w' hp hk hs' hl'=>hQ e st' sy' a' w' hp hk hs' (Lv.trans hl hl')) fun st' sy' a' w' hk hs' hl'=>hT st' sy' a' w' hk hs' (Lv.trans hl hl')
   |exit id=>exact hQ _ _ _ _ _ hp hk hs1 hl
   |ret=>exact hQ _ _ _ _ _ hp hk hs1 hl
   |goto l=>exact hp.elim
   |panic c=>exact hp.elim
   |outgrown=>exact hp.elim
  |_=>exact h.elim
end
theorem b8U {P:Program} {ops:Array Oper} {Q:Exit→Act→World→Prop} {o:Oper} {rest:List Oper} {a:Act} {w w':World} {v:Value} (hg:o.guard=none) (h:(execOp a.eval o).run P w= .ok (.value v) w') (hn:wpList P ops Q rest (a.put o.dst v) w'):wpList P ops Q (o::rest) a w:=by
 have hw:Region.wanted o (yielded ops a.tmps)=true:=by simp [Region.wanted,hg]
 simp only [wpList,hw,C6];left;unfold Oper.wp;rw [h];exact hn
theorem c4D {a:Act} {d:Nat} {v:Value} (h:d<a.tmps.size):(a.put (some d) v).tmps[d]?=some v:=by simp [Act.put,h]
theorem b8J {a:Act} {d e:Nat} {v:Value} (h:d≠e):(a.put (some d) v).tmps[e]?=a.tmps[e]?:=by simp [Act.put,h]
theorem c2f {a:Act} {d:Option Nat} {v:Value}:(a.put d v).tmps.size=a.tmps.size:=by cases d<;>simp [Act.put]
theorem c4N {a:Act} {d:Option Nat} {v:Value}:(a.put d v).defers=a.defers:=by cases d<;>simp [Act.put]
theorem c2I {a:Act} {d:Nat} {v:Value} (h:a.tmps[d]?=some v):a.eval (.tmp d)=v:=by simp [Act.eval,h]
section
variable {X : Cy} {Q : Exit → Act → World → Prop} {t e esz bytes : Nat} {i ie : TI} {a : Act} {w : World} {g n cap m : Nat} {cur : Array Value}
theorem c2O (hi:I8 X.P t i) (hd:i.d= .slice e esz bytes) (hm:m≤n) (hnc:n≤cap) (w:World):
 ∃o,(Instr.sliceAt t (.slice (some ⟨g,0,none⟩) n cap) (some (.int .i64 m)) none none).run X.P w= .ok (.slice (some ⟨g,o,none⟩) (n-m) (cap-m)) w∧(n-m=0∨o=m*esz):=by
 have hu:=(hi.slice hd).1
 have hsz:(sizeOf e).run X.P w= .ok esz w:=by
  obtain⟨_,inf,h1,h2,_⟩:=hi.slice hd;simp [sizeOf,typeInfo,h1,h2]
 by_cases hc:cap=m
 · refine⟨0, ?_, .inl (by omega)⟩;simp [Instr.sliceAt,Instr.slice,u5 hu,Instr.sliceBounds,run_sliceBound,hm,hsz,hc]
 · refine⟨m*esz, ?_, .inr rfl⟩;simp [Instr.sliceAt,Instr.slice,u5 hu,Instr.sliceBounds,run_sliceBound,hm,hsz,hc,G0]
theorem c5M (hi:I8 X.P t i) (hd:i.d= .slice e esz bytes) (hm:m≤cap) (w:World):
 (Instr.sliceAt t (.slice (some ⟨g,0,none⟩) n cap) none (some (.int .i64 m)) none).run X.P w= .ok (.slice (some ⟨g,0,none⟩) m cap) w:=by
 have hu:=(hi.slice hd).1
 have hsz:(sizeOf e).run X.P w= .ok esz w:=by
  obtain⟨_,inf,h1,h2,_⟩:=hi.slice hd;simp [sizeOf,typeInfo,h1,h2]
 by_cases hc:cap=0
 · subst hc;have:m=0:=by omega
   subst this;simp [Instr.sliceAt,Instr.slice,u5 hu,Instr.sliceBounds,run_sliceBound,hsz]
 · simp [Instr.sliceAt,Instr.slice,u5 hu,Instr.sliceBounds,run_sliceBound,hm,hsz,hc,G0]
end
def b3Q (o:Oper):Bool:=match o.op with| .defer _=>false|_=>true
def b5n:List Oper→Bool
 | []=>true
 |o::l=>match b3Q o with|true=>b5n l|false=>false
def b1v (fz:List Nat) (o:Oper):Bool:=match o.dst with|none=>true|some d=>match F2 d fz with|true=>false|false=>true
def b5t (fz:List Nat):List Oper→Bool
 | []=>true
 |o::l=>match b1v fz o with|true=>b5t fz l|false=>false
def H4 (fz:List Nat):Code→Bool
 | .region _ ops _=>match b5n ops.toList with|true=>b5t fz ops.toList|false=>false
 | .seq a b=>match H4 fz a with|true=>H4 fz b|false=>false
 | .cond _ a b=>match H4 fz a with|true=>H4 fz b|false=>false
 | .block _ c=>H4 fz c
 | .loop c=>H4 fz c
 | .skip=>true
 | .label _=>true
 | .exit _=>true
 | .ret=>true
 |_=>false
theorem b7G {l:List Oper} (h:b5n l=true):∀o,o∈l→b3Q o=true:=by
 induction l with
 |nil=>simp
 |cons x l ih=>
  simp only [b5n]at h;split at h
  · rename_i hx;intro o ho;rcases o5.1 ho with rfl|ho
    · exact hx
    · exact ih h o ho
  · cases h
theorem b3J {P:Program} {l n:Nat} {a:Act} {w:World} {o:Oper} {K:Act→World→Prop} {Q Q':Exit→Act→World→Prop} (h:o.wpIn (Fence.wide.inRound l) n P a w K Q) (hq:¬LetsOut Q) (hp:∀c a w,¬Q (.panic c) a w):o.wpIn (Fence.wide.inRound l) n P a w K Q':=by
 unfold Oper.wpIn at*;refine⟨h.1, ?_⟩;have h:=h.2;generalize (o.semAt (Fence.wide.inRound l).round a.eval).run P w=r at*;cases r with
 |ok x w'=>
  cases x with
  |value v=>exact h
  |skip=>exact h
  |defer d=>exact h
  |enter f args=>
   refine⟨h.1,h.2.mono fun e w'' he=> ?_⟩;cases e with
   |returned v=>exact he
   |panicked c=>exact absurd he (hp _ _ _)
   |outgrown=>exact absurd he hq
  |row row args=>exact h
  |round l f tmps assign body=>
   refine⟨h.1,h.2.mono fun e w'' he=> ?_⟩;cases e with
   |returned v=>exact he
   |panicked c=>exact absurd he (hp _ _ _)
   |outgrown=>exact absurd he hq
  |_=>exact h.elim
 |halt hl w'=>
  cases hl with
  |panic v=>exact absurd h (hp _ _ _)
  |_=>exact h.elim
theorem b7P {fz:List Nat} {l:List Oper} (h:b5t fz l=true):∀o,o∈l→b1v fz o=true:=by
 induction l with
 |nil=>simp
 |cons x l ih=>
  simp only [b5t]at h;split at h
  · rename_i hx;intro o ho;rcases o5.1 ho with rfl|ho
    · exact hx
    · exact ih h o ho
  · cases h
def kept (fz:List Nat) (a a':Act):Prop:=∀d,d∈fz→a'.tmps[d]?=a.tmps[d]?
theorem a2d {fz:List Nat} {a0 a:Act} {o:Oper} {v:Value} (hd:b1v fz o=true) (h:kept fz a0 a):kept fz a0 (a.put o.dst v):=by
 intro d hm;rw [←h d hm];unfold b1v at hd;cases ho:o.dst with
 |none=>simp [Act.put]
 |some e=>
  rw [ho]at hd;simp only at hd;split at hd
  · cases hd
  · rename_i hn;have hne:e≠d:=fun e'=>by subst e';rw [y9.2 hm]at hn;cases hn
    simp [Act.put,hne]
section
variable {P : Program} {l n : Nat} {a a0 : Act} {w : World} {Q : Exit → Act → World → Prop} {fz : List Nat}
theorem b9O {o:Oper} {K:Act→World→Prop} (hn:b3Q o=true) (hd:b1v fz o=true) (hk:kept fz a0 a) (h:o.wp P a w K Q):o.wpIn (Fence.wide.inRound l) n P a w (fun a' w'=>kept fz a0 a'∧K a' w') Q:=by
 unfold Oper.wp at h;unfold Oper.wpIn;refine⟨fun _ _=>trivial, ?_⟩;have hne:∀c,o.op≠ .defer c:=fun c e=>by simp [b3Q,e]at hn
 rw [Fence.inRound_round,Oper.semAt_some l a.eval o hne];generalize (execOp a.eval o).run P w=r at*;cases r with
 |ok x w'=>
  cases x with
  |value v=>exact⟨a2d hd hk,h⟩
  |skip=>exact⟨a2d hd hk,h⟩
  |defer d=>exact⟨a2d (a:= { a with defers:=d::a.defers}) hd hk,h⟩
  |enter f args=>
   refine⟨fun h=>by simp [Fence.wide]at h,((callsIn_wide.2 h).inRound l).mono fun e w'' he=> ?_⟩;cases e with
   |returned v=>exact⟨a2d hd hk,he⟩
   |panicked c=>exact he
   |outgrown=>exact he
  |row row args=>
   refine⟨fun h=>by simp [Fence.wide]at h,fun c cs _=> ?_⟩;obtain⟨v,w',r,s⟩:=h c cs;exact⟨v,w',⟨a2d hd hk,r⟩,stepsIn_wide.2 s⟩
  |_=>exact h.elim
 |halt hl w'=>cases hl<;>exact h
theorem b9P {ops:Array Oper} (hq:¬LetsOut Q) (hp:∀c a w,¬Q (.panic c) a w):∀(rest:List Oper) (a:Act) (w:World),(∀o,o∈rest→b3Q o=true)→(∀o,o∈rest→b1v fz o=true)→kept fz a0 a→wpList P ops Q rest a w→wpListIn (Fence.wide.inRound l) n P ops (fun e a' w'=>kept fz a0 a'∧Q e a' w') rest a w
 | [],a,w,_,_,hk,h=>⟨hk,h⟩
 |o::rest,a,w,hn,hd,hk,h=>by
  have ih:=fun a w hk=>b9P (ops:=ops) hq hp rest a w (fun o ho=>hn o (A9 _ ho)) (fun o ho=>hd o (A9 _ ho)) hk
  simp only [wpList]at h;simp only [wpListIn];split at h
  · rename_i hw;rw [e9 hw];rcases h with h|⟨_,h⟩
    · exact b3J (Oper.wpIn_mono (fun a w h=>ih a w h.1 h.2) (b9O (hn o F5) (hd o F5) hk h)) hq hp
    · exact absurd h hq
  · rename_i hw;rw [i6 hw];exact⟨fun _ _=>trivial,ih _ _ (a2d (hd o F5) hk) h⟩
theorem b5p {ops:Array Oper} {md:Region.Mode} (hq:¬LetsOut Q) (hp:∀c a w,¬Q (.panic c) a w) (hn:∀o,o∈ops.toList→b3Q o=true) (hd:∀o,o∈ops.toList→b1v fz o=true):∀(fuel:Nat) (listed:Array Bool) (a:Act) (w:World),kept fz a0 a→wpAny P md ops Q fuel listed a w→wpAnyIn (Fence.wide.inRound l) n P md ops (fun e a' w'=>kept fz a0 a'∧Q e a' w') fuel listed a w
 |0,listed,a,w,hk,h=>⟨h.1,hk,h.2⟩
 |fuel+1,listed,a,w,hk,h=>by
  refine⟨fun hr=>⟨hk,h.1 hr⟩,fun i hi=> ?_⟩;have h2:=h.2 i hi;unfold wpOp at h2;unfold wpOpIn;cases ho:ops[i]? with
  |none=>rw [ho]at h2;exact b5p hq hp hn hd fuel _ a w hk h2
  |some o=>
   rw [ho]at h2;have hm:=a7K (show ops.toList[i]?=some o by simpa using ho)
   simp only at h2⊢;split at h2
   · rename_i hw;rw [e9 hw];rcases h2 with h2|⟨_,h2⟩
     · exact b3J (Oper.wpIn_mono (fun a w h=>b5p hq hp hn hd fuel _ a w h.1 h.2) (b9O (hn o hm) (hd o hm) hk h2)) hq hp
     · exact absurd h2 hq
   · rename_i hw;rw [i6 hw];exact⟨fun _ _=>trivial,b5p hq hp hn hd fuel _ _ _ (a2d (hd o hm) hk) h2⟩
end
section
variable {A : Nat → Prop} {X : Cy} {w0 : World} {bor : List Nat}
theorem b0X (l n:Nat) (fz:List Nat) (hA:AG A X.P w0 bor) (hP:POK X.P X.tt) (c:Code) (hc:H4 fz c=true):∀(st:St) (sy:Sy) (a0 a:Act) (w:World) (K:Exit→Sy→Prop) (Q:Exit→Act→World→Prop),kept fz a0 a→I9 X c sy K→Sim A st sy→Rel (cx X w0 bor) st a w→
 (∀e st' sy' a' w',plain e→K e sy'→Sim A st' sy'→Lv (cx X w0 bor) st.H w st' a' w'→kept fz a0 a'→Q e a' w')→c.wpIn (Fence.wide.inRound l) n X.P Q a w:=by
 induction c with
 |skip=>exact fun st sy a0 a w K Q hk h hs hr hQ=>wpIn_skip (hQ .normal st sy a w trivial h hs (Lv.refl hr) hk)
 |label l=>exact fun st sy a0 a w K Q hk h hs hr hQ=>wpIn_label (hQ .normal st sy a w trivial h hs (Lv.refl hr) hk)
 |exit id=>exact fun st sy a0 a w K Q hk h hs hr hQ=>wpIn_exit (hQ (.exit id) st sy a w trivial h hs (Lv.refl hr) hk)
 |ret=>exact fun st sy a0 a w K Q hk h hs hr hQ=>wpIn_ret (hQ .ret st sy a w trivial h hs (Lv.refl hr) hk)
 |region id ops draw=>
  intro st sy a0 a w K Q hkp h hs hr hQ;simp only [H4]at hc;split at hc
  · rename_i hn0;have hn:=b7G hn0;have hd:=b7P hc
    have hno:¬LetsOut fun e a w=>e=Exit.normal∧(kept fz a0 a→Q e a w):=by
     rintro⟨a,w,h,_⟩;cases h
    have hpn:∀c a w,¬((Exit.panic c)=Exit.normal∧(kept fz a0 a→Q (.panic c) a w)):=by
     rintro c a w ⟨h,_⟩;cases h
    have hmono:∀e a w,(kept fz a0 a∧(e=Exit.normal∧(kept fz a0 a→Q e a w)))→Q e a w:=fun _ _ _ h=>h.2.2 h.1
    cases draw with
    |false=>exact wpIn_mono (wpIn_region_list (b9P hno hpn _ _ _ hn hd hkp (a7Z hA hP ops.toList _ _ a w _ h hs hr fun st' sy' a' w' hk hs' hl=>⟨rfl,hQ .normal st' sy' a' w' trivial hk hs' hl⟩))) hmono
    |true=>
     simp only [I9]at h;split at h
     · obtain⟨T,H,nk⟩:=sy;obtain⟨T',H',nk',ws,lo,iv⟩:=st;have hx:=X9 (w0:=w0) (bor:=bor) hA hP _ h.2 (b1W (ops:=ops.toList) hs);exact wpIn_mono (wpIn_region_any hP.mix (b5p hno hpn hn hd _ _ _ _ hkp (a1C (X:=cx X w0 bor) hP hr h.1 hx fun st' a' w' ⟨sy',hk,hs'⟩ hl=>⟨rfl,hQ .normal st' sy' a' w' trivial hk hs' hl⟩))) hmono
     · exact h.elim
  · cases hc
 |seq x y ihx ihy=>
  intro st sy a0 a w K Q hkp h hs hr hQ;simp only [H4]at hc;split at hc
  · rename_i hcx;refine wpIn_seq (ihx hcx st sy a0 a w _ _ hkp h hs hr fun e st1 sy1 a1 w1 hp hk hs1 hl hkp1=> ?_);cases e with
    |normal=>exact ihy hc st1 sy1 a0 a1 w1 K Q hkp1 hk hs1 hl.rel fun e st2 sy2 a2 w2 hp hk2 hs2 hl2=>hQ e st2 sy2 a2 w2 hp hk2 hs2 (Lv.trans hl hl2)
    |exit id=>exact hQ _ _ _ _ _ hp hk hs1 hl hkp1
    |ret=>exact hQ _ _ _ _ _ hp hk hs1 hl hkp1
    |goto l=>exact hp.elim
    |panic c=>exact hp.elim
    |outgrown=>exact hp.elim
  · cases hc
 |cond c x y ihx ihy=>
  intro st sy a0 a w K Q hkp h hs hr hQ;simp only [H4]at hc;split at hc
  · rename_i hcx;simp only [I9]at h;split at h
    · rename_i b hcd;obtain⟨s,h1,h2,_⟩:=j9 hs hcd;have:=h2.sc;subst this;have hb:a.eval c= .bool b:=by simpa [den]using (hr.ev c _ h1).2
      cases b with
      |true=>exact wpIn_cond_true hb (ihx hcx st sy a0 a w K Q hkp h hs hr hQ)
      |false=>exact wpIn_cond_false hb (ihy hc st sy a0 a w K Q hkp h hs hr hQ)
    · exact h.elim
  · cases hc
 |block id c ih=>
  intro st sy a0 a w K Q hkp h hs hr hQ;refine wpIn_block (ih hc st sy a0 a w _ _ hkp h hs hr fun e st1 sy1 a1 w1 hp hk hs1 hl hkp1=> ?_);cases e with
  |normal=>exact hQ _ _ _ _ _ hp hk hs1 hl hkp1
  |exit j=>
   simp only [Exit.inBlock];simp only at hk;split at hk
   · rename_i hb;rw [e9 (r6 hb)];exact hQ .normal _ _ _ _ trivial hk hs1 hl hkp1
   · rename_i hb;rw [i6 (a0L hb)];exact hQ _ _ _ _ _ hp hk hs1 hl hkp1
  |ret=>exact hQ _ _ _ _ _ hp hk hs1 hl hkp1
  |goto l=>exact hp.elim
  |panic c=>exact hp.elim
  |outgrown=>exact hp.elim
 |loop c ih=>
  intro st sy a0 a w K Q hkp h hs hr hQ;have h:E5 (I9 X c) sy K:=h;obtain⟨α,f,inv,μ,⟨x0,hsub,hinv⟩,hround⟩:=h.ex;obtain⟨st0,hs0,hr0,hb0⟩:=hsub.rel hA hs hr;refine wpIn_loop_ghost (fun n a1 w1=>∃x,μ x=n∧inv x∧kept fz a0 a1∧∃st1,Sim A st1 (f x)∧Lv (cx X w0 bor) st.H w st1 a1 w1) (μ x0) ⟨x0,rfl,hinv,hkp,st0,hs0,hr0,Fx.refl _ _,fun b hb=> .inl (hb0 b hb)⟩ ?_;rintro n a1 w1 ⟨x,rfl,hinv1,hkp1,st1,hs1,hlv⟩;refine ih hc st1 (f x) a0 a1 w1 _ _ hkp1 (hround x hinv1) hs1 hlv.rel fun e st2 sy2 a2 w2 hp hk hs2 hl hkp2=> ?_
  have hl2:=Lv.trans hlv hl;cases e with
  |normal=>
   obtain⟨y,hsb,hi,hlt⟩:=hk;obtain⟨st3,hs3,hr3,hb3⟩:=hsb.rel hA hs2 hl2.rel;exact⟨μ y,hlt,y,rfl,hi,hkp2,st3,hs3,hr3,hl2.fx,fun b hb=>hl2.bs b (hb3 b hb)⟩
  |exit j=>exact hQ _ _ _ _ _ hp hk hs2 hl2 hkp2
  |ret=>exact hQ _ _ _ _ _ hp hk hs2 hl2 hkp2
  |goto l=>exact hp.elim
  |panic c=>exact hp.elim
  |outgrown=>exact hp.elim
 |_=>exact absurd hc (by simp [H4])
end
mutual
theorem Rep.keep {ok ok':Nat→Prop} {w w':World} (hm:∀b,ok b→ok' b∧(∀p c,w.cell? ⟨b,p,none⟩=some c→w'.cell? ⟨b,p,none⟩=some c)∧∀es c,w.heap[b]?=some (Obj.map es c)→w'.heap[b]?=some (Obj.map es c)):∀(d:D) (y:Value),Rep ok w d y→Rep ok' w' d y
 | .v x,y,h=>h
 | .agg l,y,h=>by
  simp only [Rep]at h⊢;obtain⟨a,h1,h2,h3⟩:=h;exact⟨a,h1,j1.keep hm l _ h2,h3⟩
 | .lst z n l,y,h=>by
  simp only [Rep]at h⊢;obtain⟨a,c,h1,h2,h3,h4,h5,h6⟩:=h;refine⟨a,c,h1,h2,h3,h4,h5, ?_⟩;rcases h6 with h6|⟨b,o,xs,e1,e2,e3,e4⟩
  · exact .inl h6
  · refine .inr ⟨b,o,xs,e1,(hm b e2).1,j1.keep hm l _ e3,fun j hj=> ?_⟩;have hlt:j<xs.length:=by rw [←j1.length e3,h4];exact hj
    have hx:=e4 j hj;rw [M6 hlt]at hx⊢;exact(hm b e2).2.1 _ _ hx
 | .ptr l o,y,h=>by
  simp only [Rep]at h⊢;obtain⟨b,p,xs,e1,e2,e5,e3,e4⟩:=h;refine⟨b,p,xs,e1,(hm b e2).1,e5,j1.keep hm l _ e3,fun j hj=> ?_⟩;have hlt:j<xs.length:=by rw [←j1.length e3];exact hj
  have hx:=e4 j hj;rw [M6 hlt]at hx⊢;exact(hm b e2).2.1 _ _ hx
 | .fn f a b,y,h=>by
  simp only [Rep]at h⊢;obtain⟨p,q,h1,h2,h3⟩:=h;exact⟨p,q,h1,j1.keep hm a _ h2,j1.keep hm b _ h3⟩
 | .tup l,y,h=>by
  simp only [Rep]at h⊢;obtain⟨a,h1,h2⟩:=h;exact⟨a,h1,j1.keep hm l _ h2⟩
 | .mp l,y,h=>by
  simp only [Rep]at h⊢;obtain⟨r,es,c,h1,h2,h3,h4⟩:=h;exact⟨r,es,c,h1,(hm r h2).1,(hm r h2).2.2 _ _ h3,h4⟩
 | .own _ _,_,h=>by simp [Rep]at h
 | .ownx _ _,_,h=>by simp [Rep]at h
 | .row _ _,_,h=>by simp [Rep]at h
 | .elr _ _ _ _,_,h=>by simp [Rep]at h
 | .osl _ _ _ _ _,_,h=>by simp [Rep]at h
 | .und,_,h=>by simp [Rep]at h
 | .bad,_,h=>by simp [Rep]at h
theorem j1.keep {ok ok':Nat→Prop} {w w':World} (hm:∀b,ok b→ok' b∧(∀p c,w.cell? ⟨b,p,none⟩=some c→w'.cell? ⟨b,p,none⟩=some c)∧∀es c,w.heap[b]?=some (Obj.map es c)→w'.heap[b]?=some (Obj.map es c)):∀(l:List D) (r:List Value),j1 ok w l r→j1 ok' w' l r
 | [], [],_=>trivial
 |d::l,y::r,h=>by
  simp only [j1]at h⊢;exact⟨Rep.keep hm d y h.1,j1.keep hm l r h.2⟩
 | [],_::_,h=>by simp [j1]at h
 |_::_, [],h=>by simp [j1]at h
end
mutual
theorem d8.keep {ok ok':Nat→Prop} {w w':World} {R R':Bool→Nat→Prop} (hm:∀b,ok b→ok' b∧(∀p c,w.cell? ⟨b,p,none⟩=some c→w'.cell? ⟨b,p,none⟩=some c)∧∀es c,w.heap[b]?=some (Obj.map es c)→w'.heap[b]?=some (Obj.map es c)) (hR:∀q k,R q k→R' q k):∀(d:D) (s:SV),d8 ok w R d s→d8 ok' w' R' d s
 | .v x,y,h=>h
 | .agg l,y,h=>by
  simp only [d8]at h⊢;obtain⟨a,h1,h2,h3⟩:=h;exact⟨a,h1,d9.keep hm hR l _ h2,h3⟩
 | .lst z n l,y,h=>by
  simp only [d8]at h⊢;obtain⟨a,h1,h2⟩:=h;exact⟨a,h1,Rep.keep hm _ _ h2⟩
 | .ptr l o,y,h=>by
  simp only [d8]at h⊢;obtain⟨a,h1,h2⟩:=h;exact⟨a,h1,Rep.keep hm _ _ h2⟩
 | .mp l,y,h=>by
  simp only [d8]at h⊢;obtain⟨a,h1,h2⟩:=h;exact⟨a,h1,Rep.keep hm _ _ h2⟩
 | .own k o,y,h=>by simp only [d8]at h⊢;exact⟨h.1,hR _ k h.2⟩
 | .ownx k o,y,h=>by simp only [d8]at h⊢;exact⟨h.1,hR _ k h.2⟩
 | .row k z,y,h=>by simp only [d8]at h⊢;exact⟨h.1,hR _ k h.2⟩
 | .elr k z i o,y,h=>by simp only [d8]at h⊢;exact⟨h.1,hR _ k h.2⟩
 | .osl k o z n c,y,h=>by simp only [d8]at h⊢;exact⟨h.1,hR _ k h.2⟩
 | .tup l,y,h=>by
  simp only [d8]at h⊢;rcases h with⟨cs,h1,h2⟩|⟨a,h1,h2⟩
  · exact .inl ⟨cs,h1,d9.keep hm hR l _ h2⟩
  · exact .inr ⟨a,h1,d9.keep hm hR l _ h2⟩
 | .fn f a b,y,h=>by
  simp only [d8]at h⊢;rcases h with⟨p,q,h1,h2,h3⟩|⟨p,q,h1,h2,h3⟩
  · exact .inl ⟨p,q,h1,d9.keep hm hR a _ h2,d9.keep hm hR b _ h3⟩
  · exact .inr ⟨p,q,h1,d9.keep hm hR a _ h2,d9.keep hm hR b _ h3⟩
 | .und,_,h=>h
 | .bad,_,h=>h
theorem d9.keep {ok ok':Nat→Prop} {w w':World} {R R':Bool→Nat→Prop} (hm:∀b,ok b→ok' b∧(∀p c,w.cell? ⟨b,p,none⟩=some c→w'.cell? ⟨b,p,none⟩=some c)∧∀es c,w.heap[b]?=some (Obj.map es c)→w'.heap[b]?=some (Obj.map es c)) (hR:∀q k,R q k→R' q k):∀(l:List D) (r:List SV),d9 ok w R l r→d9 ok' w' R' l r
 | [], [],_=>trivial
 |d::l,y::r,h=>by
  simp only [d9]at h⊢;exact⟨d8.keep hm hR d y h.1,d9.keep hm hR l r h.2⟩
 | [],_::_,h=>by simp [d9]at h
 |_::_, [],h=>by simp [d9]at h
end
def b6F:Obj→Bool
 | .cells _ _ _=>false
 | .map _ _=>false
 |_=>true
theorem a4T {H:Hp} {w:World} {e:Ent} {b:Nat} (h:a2O 0 H w e) (hb:b∈bsE e):∃o,w.heap[b]?=some o∧b6F o=false:=by
 cases e with
 |blk b' cs ty=>
  simp only [bsE,a1n]at hb;subst hb;obtain⟨xs,_,h⟩:=h;exact⟨_,h,rfl⟩
 |mp b' es ty=>
  simp only [bsE,a1n]at hb;subst hb;obtain⟨_,_,h,_⟩:=h;exact⟨_,h,rfl⟩
 |row v n xs z ty=>
  obtain⟨_,h⟩:=(show w.ownsRow 0 ty z v n xs from h);rcases h with⟨rfl,_⟩|⟨g,cap,cur,rfl,_,hg,_⟩
  · simp [bsE,n9]at hb
  · simp [bsE,n9]at hb;subst hb;exact⟨_,hg,rfl⟩
section
variable {A : Nat → Prop} {X : Cy} {w0 : World} {bor : List Nat} {st : St} {sy : Sy} {a : Act} {W W' : World}
theorem turn {row:Option Nat} (hs:Sim A st sy) (hr:Rel (cx X w0 bor) st a W) (hg:W.grownBy W' row) (hrow:∀r,row=some r→w0.heap.size≤r∧∃o:Obj,W.heap[r]?=some o∧b6F o=true):Sim A (now st W') sy∧Rel (cx X w0 bor) (now st W') a W':=by
 have hs0:=hs.now hr.cls;have hr0:=hr.now
 have hcell:∀b p c,W.cell? ⟨b,p,none⟩=some c→W'.cell? ⟨b,p,none⟩=some c:=by
  intro b p c h;by_cases hb:b<W.heap.size
  · by_cases hrb:row=some b
    · obtain⟨_,o,ho,hc⟩:=hrow b hrb;simp only [World.cell?,ho]at h;cases o<;>simp_all [b6F]
    · simp only [World.cell?,hg.block b hb (fun e=>hrb e.symm)]at h⊢;exact h
  · simp [World.cell?,a9G (Nat.le_of_not_lt hb)]at h
 have hmap:∀(b:Nat) es c,W.heap[b]?=some (Obj.map es c)→W'.heap[b]?=some (Obj.map es c):=by
  intro b es c h;rw [hg.block b (O1.1 h).1 fun hrb=> ?_]
  · exact h
  · obtain⟨_,o,ho,hc⟩:=hrow b hrb.symm;rw [h]at ho;cases ho;simp [b6F]at hc
 have hok:∀b,okS A (now st W) b→okS A (now st W') b∧(∀p c,W.cell? ⟨b,p,none⟩=some c→W'.cell? ⟨b,p,none⟩=some c)∧∀es c,W.heap[b]?=some (Obj.map es c)→W'.heap[b]?=some (Obj.map es c):=fun b hb=>
  ⟨⟨⟨.inl (E3 hb.2.1 hg.size),hb.1.2⟩,E3 hb.2.1 hg.size,hb.2.2⟩,hcell b,hmap b⟩
 constructor
 · refine⟨fun d x hx=> ?_,fun k e he=> ?_,hs0.nk,hs0.fT,hs0.fH⟩
   · rcases hs0.T d x hx with h|⟨s,h1,h2⟩
     · exact .inl h
     · exact .inr ⟨s,h1,d8.keep hok (fun _ _ h=>h) _ _ h2⟩
   · obtain⟨e',h1,h2⟩:=hs0.H k e he;refine⟨e',h1, ?_⟩;cases e<;>cases e'<;>simp only [a0I]at h2⊢
     · exact⟨h2.1,d9.keep hok (fun _ _ h=>h) _ _ h2.2⟩
     · exact⟨h2.1,h2.2.1,h2.2.2.1,j1.keep hok _ _ h2.2.2.2.1,h2.2.2.2.2⟩
     · exact h2
 · have hc:=hr0.cls
   have hbs:∀k e,(k,e)∈st.H→∀b,b∈bsE e→W'.heap[b]?=W.heap[b]?:=by
    intro k e he b hb;obtain⟨q,hcl,hctl⟩:=a4T (hc.own k e he) hb;refine hg.block b (by rw [O1]at hcl;exact hcl.1) fun hrb=> ?_
    obtain⟨_,o,ho,hno⟩:=hrow b hrb.symm;rw [hcl]at ho;cases ho;rw [hctl]at hno;cases hno
   refine⟨hr0.size,hr0.T,hr0.dfs,⟨Fx.refl _ _, ?_,fun k e he=>M3 (hc.own k e he) (hbs k e he),hc.nd,hc.lb,hc.keys,hc.lt⟩,u0 _,by simp [now]⟩;have f0:=hc.fx0;refine⟨hg.os.trans f0.os,hg.tape.trans f0.tape,hg.output.trans f0.output,r7 f0.size hg.size,fun i hi hn=> ?_⟩;rw [hg.block i (E3 hi f0.size) fun e=>by have:=(hrow i e.symm).1;exact absurd hi (Nat.not_lt.2 this)];exact f0.block i hi hn
end
def a5e (fz:List Nat):List (Nat×SV)→List (Nat×SV)
 | []=> []
 |(d,s)::T=>match F2 d fz with|true=>(d,s)::a5e fz T|false=>a5e fz T
theorem b2h {fz:List Nat} {d:Nat} (hd:d∈fz) (T:List (Nat×SV)):u1 (a5e fz T) d=u1 T d:=by
 induction T with
 |nil=>rfl
 |cons p T ih=>
  obtain⟨e,s⟩:=p;simp only [a5e];cases hm:F2 e fz with
  |true=>simp only [u1,ih]
  |false=>
   have hne:Nat.beq e d=false:=J2 fun e'=>by subst e';rw [y9.2 hd]at hm;cases hm
   simp only [u1,hne,ih]
theorem a9Q {fz:List Nat} {d:Nat} {s:SV} {T:List (Nat×SV)} (h:u1 (a5e fz T) d=some s):d∈fz:=by
 induction T with
 |nil=>simp [a5e,u1]at h
 |cons p T ih=>
  obtain⟨e,s⟩:=p;simp only [a5e]at h;cases hm:F2 e fz with
  |true=>
   rw [hm]at h;simp only [u1]at h;split at h
   · rename_i hb;obtain rfl:=r6 hb;exact y9.1 hm
   · exact ih h
  |false=>rw [hm]at h;exact ih h
theorem b6m {fz:List Nat} {j:Nat} {T:List (Nat×SV)} (h:o7 j T=true):o7 j (a5e fz T)=true:=by
 induction T with
 |nil=>rfl
 |cons p T ih=>
  obtain⟨e,s⟩:=p;simp only [o7]at h;simp only [a5e];cases hm:F2 e fz with
  |true=>
   cases hx:ment j s with
   |true=>rw [hx]at h;cases h
   |false=>rw [hx]at h;simp only [o7,hx];exact ih h
  |false=>
   cases hx:ment j s with
   |true=>rw [hx]at h;cases h
   |false=>rw [hx]at h;exact ih h
section
variable {A : Nat → Prop} {X : Cy} {w0 : World} {bor : List Nat} {st : St} {sy : Sy} {a a' : Act} {W : World} {fz : List Nat}
theorem c8c (hs:Sim A st sy) (hr:Rel (cx X w0 bor) st a' W) (hk:kept fz a a') (hsz:a.tmps.size=X.nt) (hT:∀d x,o4 sy.T d=some x→d∈fz) (ds:List Deferred) (hds:a.defers=ds):
 Sim A ⟨a5e fz st.T,st.H,st.nk,st.w,st.lo,st.iv⟩ sy∧Rel (cx { X with dfs:=ds} w0 bor) ⟨a5e fz st.T,st.H,st.nk,st.w,st.lo,st.iv⟩ a W:=by
 constructor
 · refine⟨fun d x hx=> ?_,hs.H,hs.nk,fun j hj=>b6m (hs.fT j hj),hs.fH⟩;rcases hs.T d x hx with h|⟨s,h1,h2⟩
   · exact .inl h
   · exact .inr ⟨s,by rw [b2h (hT d x hx)];exact h1,h2⟩
 · refine⟨⟨hsz,hr.size.2⟩,fun d s h=> ?_,hds,⟨hr.cls.fx,hr.cls.fx0,hr.cls.own,hr.cls.nd,hr.cls.lb,hr.cls.keys,hr.cls.lt⟩,hr.lo,hr.iv⟩;have hd:=a9Q h;rw [b2h hd]at h;rcases hr.T d s h with h|h
   · exact .inl h
   · right;simp only [G9]at h⊢;rw [←hk d hd];exact h
def b2C:List Nat→List Value→Array Value→Array Value
 |p::ps,v::vs,t=>b2C ps vs (t.setIfInBounds p v)
 |_,_,t=>t
theorem b9f:∀(ps:List Nat) (vs:List Value) (t:Array Value),(ps.zip vs).foldl (fun t (p:Nat×Value)=>t.setIfInBounds p.1 p.2) t=b2C ps vs t
 | [],_,t=>rfl
 |p::ps, [],t=>rfl
 |p::ps,v::vs,t=>by simp only [List.zip_cons_cons,List.foldl_cons,b2C];exact b9f ps vs _
def b2T (X:Cy):List Nat→List D→Sy→(Sy→Prop)→Prop
 | [], [],st,K=>K st
 |p::ps,d::ds,st,K=>F8 X st (some p) d fun st=>b2T X ps ds st K
 |_,_,_,_=>False
theorem c3M {Xx:Cx} {dst:Option Nat} {s:SV} {K:St→Prop} (h:put Xx st dst s K):put Xx st dst s fun st'=>K st'∧st'.w=st.w∧st'.H=st.H∧st'.lo=st.lo∧st'.iv=st.iv:=by
 unfold put at h⊢;cases dst with
 |none=>exact⟨h,rfl,rfl,rfl,rfl⟩
 |some d=>
  obtain⟨T,H,nk,w,lo,iv⟩:=st;simp only at h⊢;split at h
  · rename_i hd heq;cases heq;exact⟨h,rfl,rfl,rfl,rfl⟩
  · exact h.elim
theorem c3D {A:Nat→Prop} {st st':St} (hw:st'.w=st.w) (hH:st'.H=st.H) (hl:st'.lo=st.lo) (hi:st'.iv=st.iv):okS A st'=okS A st:=by
 funext b;simp only [okS,hw,hH,hl,hi]
theorem b9x:∀(ps:List Nat) (ds:List D) (vs:List Value) {K:Sy→Prop} {st:St} {sy:Sy} {a:Act},j1 (okS A st) st.w ds vs→b2T X ps ds sy K→Sim A st sy→Rel (cx X w0 bor) st a W→
 ∃st' sy',K sy'∧Sim A st' sy'∧Rel (cx X w0 bor) st' { a with tmps:=b2C ps vs a.tmps} W∧st'.H=st.H
 | [], [],vs,K,st,sy,a,hv,h,hs,hr=>by
  cases vs with
  |nil=>exact⟨st,sy,h,hs,hr,rfl⟩
  |cons v vs=>exact absurd hv (by simp [j1])
 |p::ps,d::ds, [],K,st,sy,a,hv,h,hs,hr=>absurd hv (by simp [j1])
 |p::ps,d::ds,v::vs,K,st,sy,a,hv,h,hs,hr=>by
  have hd:Rep (okS A st) st.w d v:=hv.1;have hput:=c3M (y4 (w0:=w0) (bor:=bor) (s:= .v v) h hs (Rep.rel _ _ hd));obtain⟨st1,⟨⟨sy1,h1,h2⟩,e1,e2,e3,e4⟩,h3,h4⟩:=R4 hr hput (v:=v) (.inr (by simp [den]));obtain⟨st2,sy2,g1,g2,g3,g4⟩:=b9x ps ds vs (by rw [c3D e1 e2 e3 e4,e1];exact hv.2) h1 h2 h3;exact⟨st2,sy2,g1,g2,g3,g4.trans h4⟩
 | [],_::_,_,_,_,_,_,_,h,_,_=>h.elim
 |_::_, [],_,_,_,_,_,_,h,_,_=>h.elim
end
def a5w (P:Program) (gf:FuncId) (caps:List D) (xs:List (List D)):Prop:=
 ∀(ok O0:Nat→Prop) (W:World) (vl:List Value) (n l:Nat) (J:List (List D)→(Nat→Prop)→World→Prop) (Jx:List (List D)→World→Prop),
  j1 ok W caps vl→(∀b,ok b→b<W.heap.size∧¬O0 b)→(∀b,O0 b→b<W.heap.size)→GIW P W→
  (∀pre O A B,J pre O A→A.grownBy B none→J pre O B)→(∀pre A B,Jx pre A→A.grownBy B none→Jx pre B)→
  (∀pre x vals O W1,J pre O W1→(∀b,O b→b<W1.heap.size)→pre++ [x]<+:xs→j1 (fun b=>(ok b∨W.heap.size≤b)∧b<W1.heap.size∧¬O b) W1 x vals→
   YieldAt Fence.wide n P l vals.toArray W1 fun e W'=>
    GIW P W'∧((e= .returned (.bool true)∧∃O',J (pre++ [x]) O' W'∧W1.heap.size≤W'.heap.size∧(∀b,O' b→b<W'.heap.size∧(O b∨W1.heap.size≤b))∧∀b,b<W1.heap.size→¬O b→W'.heap[b]?=W1.heap[b]?)∨
    (e= .returned (.bool false)∧Jx (pre++ [x]) W')))→
  J [] O0 W→
  CallsIn Fence.wide (n+1) P gf (#[.func (.yield l) #[] #[]]++vl.toArray) W fun e W'=>(∃v,e= .returned v)∧((∃O,J xs O W')∨∃pre,pre<+:xs∧Jx pre W')
def c3K:Exit→Code
 | .exit id=> .exit id
 |_=> .ret
def c3l {σ:Type} (f:σ→Sy) (fx:Exit→σ→Sy) (R:List (List D)→σ→Prop) (RX:Exit→List (List D)→σ→Prop) (pre:List (List D)) (e:Exit) (sy:Sy):Prop:=
 match e with
 | .normal=>∃s,R pre s∧F6 sy (f s)
 | .ret=>∃s,RX .ret pre s∧F6 sy (fx .ret s)
 | .exit id=>∃s,RX (.exit id) pre s∧F6 sy (fx (.exit id) s)
 |_=>False
abbrev a4u (D:Nat):Deferred:= { target:= .collected D,args:= #[]}
section
variable {A : Nat → Prop} {X : Cy} {w0 : World} {bor : List Nat} {st : St} {sy : Sy} {a : Act} {w : World}
structure Mid (A:Nat→Prop) (X:Cy) (w0:World) (bor:List Nat) (H:Hp) (w:World) (a:Act) (sy:Sy) (W:World):Prop where
 ex:∃st1,Sim A st1 sy∧Rel (cx X w0 bor) st1 a W∧Fx (bs H) w W∧∀b,b∈bs st1.H→b∈bs H∨w.heap.size≤b
theorem Mid.turn {H:Hp} {W W':World} {row:Option Nat} (h:Mid A X w0 bor H w a sy W) (h0:w0.heap.size≤w.heap.size) (hg:W.grownBy W' row) (hrow:∀r,row=some r→w.heap.size≤r∧∃o:Obj,W.heap[r]?=some o∧b6F o=true):Mid A X w0 bor H w a sy W':=by
 obtain⟨st1,hs,hr,hf,hb⟩:=h.ex;obtain⟨h1,h2⟩:=Sx.turn hs hr hg fun r e=>⟨r7 h0 (hrow r e).1,(hrow r e).2⟩
 refine⟨_,h1,h2,⟨hg.os.trans hf.os,hg.tape.trans hf.tape,hg.output.trans hf.output,r7 hf.size hg.size,fun i hi hn=> ?_⟩,hb⟩;rw [hg.block i (E3 hi hf.size) fun e=>by have:=(hrow i e.symm).1;omega];exact hf.block i hi hn
def a6L (fz ps:List Nat):Bool:=match fz with
 | []=>true
 |d::fz=>match F2 d ps with|false=>a6L fz ps|true=>false
theorem b8t {fz ps:List Nat} (h:a6L fz ps=true):∀d,d∈fz→d∉ps:=by
 induction fz with
 |nil=>simp
 |cons e fz ih=>
  simp only [a6L]at h;split at h
  · rename_i h1;intro d hd;rcases o5.1 hd with rfl|hd
    · exact fun hm=>absurd (y9.2 hm) (by rw [h1];exact Bool.false_ne_true)
    · exact ih h d hd
  · cases h
def a9Y (X:Cy) (body:Code) (K:Exit→Sy→Prop):Exit→Sy→Prop
 | .normal,st=>I9 X body st K
 |_,_=>False
theorem b6c {d:Nat}:∀(ps:List Nat) (vs:List Value) (t:Array Value),d∉ps→(b2C ps vs t)[d]?=t[d]?
 | [],_,t,_=>by simp [b2C]
 |p::ps, [],t,_=>by simp [b2C]
 |p::ps,v::vs,t,h=>by
  simp only [o5,not_or]at h;simp only [b2C];rw [b6c ps vs _ h.2,a1q (fun e=>h.1 e.symm)]
structure b8q (B:Nat) (W W':World):Prop where
 size:W.heap.size≤W'.heap.size
 same:∀(k:Nat) (o:Obj),B≤k→W.heap[k]?=some o→b6F o=true→W'.heap[k]?=some o
theorem b6w {H:Hp} {w W W':World} {a:Act} {st:St} {B:Nat} (hc:Cls (cx X w0 bor) st.H st.nk st.w W) (hf:Fx (bs st.H) W W'):b8q B W W':=
 ⟨hf.size,fun k o _ hk ho=>by
  rw [hf.block k (O1.1 hk).1 fun b hb e=> ?_]
  · exact hk
  · subst e;obtain⟨j,e,he,hbe⟩:=u2.1 hb;obtain⟨q,hcl,hq⟩:=a4T (hc.own j e he) hbe;rw [hcl]at hk;cases hk;rw [hq]at ho;cases ho⟩
def c5y (A:Nat→Prop) (X:Cy) (w0:World) (bor:List Nat) (H:Hp) (w:World) (a:Act) (sy:Sy) (O:Nat→Prop) (W:World):Prop:=
 ∃st1,Sim A st1 sy∧Rel (cx X w0 bor) st1 a W∧Fx (bs H) w W∧(∀b,b∈bs st1.H→b∈bs H∨w.heap.size≤b)∧∀b,b∈bs st1.H→O b
theorem a3V {A B:World} (hg:A.grownBy B none) {k:Nat} {o:Obj} (h:A.heap[k]?=some o):B.heap[k]?=some o:=
 (hg.block k (O1.1 h).1 (by simp)).trans h
theorem c1K (hA:AG A X.P w0 bor) (hP:POK X.P X.tt) (hs:Sim A st sy) (hr:Rel (cx X w0 bor) st a w) {g:Operand} {ps:Array Tmp} {assign body:Code} {gf:FuncId} {caps:List D} {vl:List Value} {xs:List (List D)} {Q:Exit→Act→World→Prop}
 (hg:a.eval g= .func (.func gf) #[] vl.toArray) (hcaps:j1 (okS A (now st w)) w caps vl) (hit:a5w X.P gf caps xs) (heg:∀args w,(callFunc gf args).run X.P w= .ok (.enter gf args) w) (hps:∀x,x∈xs→x.length=ps.size)
 {fz:List Nat} (hak:H4 fz assign=true) (hbk:H4 fz body=true) (hfree:a6L fz ps.toList=true)
 {σ:Type} (f:σ→Sy) (fx:Exit→σ→Sy) (R:List (List D)→σ→Prop) (RX:Exit→List (List D)→σ→Prop) (s0:σ) (hstart:F6 sy (f s0)) (h0:R [] s0)
 (hdom:∀s d x,o4 (f s).T d=some x→d∈fz) (hdomx:∀e s d x,o4 (fx e s).T d=some x→d∈fz)
 (hround:∀(pre:List (List D)) (s:σ) (x:List D),pre++ [x]<+:xs→R pre s→∃RK:Exit→Sy→Prop,(∀e sy,RK e sy→c3l f fx R RX (pre++ [x]) e sy)∧b2T { X with dfs:= []} ps.toList x (f s) fun st1=>I9 { X with dfs:= []} assign st1 (a9Y { X with dfs:= []} body RK))
 (hdone:∀(D:Nat) (s:σ) (W:World),w.heap.size≤D→W.heap[D]?=some (.deferred (some []))→R xs s→Mid A { X with dfs:=a4u D::X.dfs} w0 bor st.H w { a with defers:=a4u D::a.defers} (f s) W→Q .normal { a with defers:=a4u D::a.defers} W)
 (hstop:∀(dd:Nat) (e:Exit) (pre:List (List D)) (s:σ) (W:World),w.heap.size≤dd→W.heap[dd]?=some (.deferred (some []))→pre<+:xs→RX e pre s→(e= .ret∨∃id,e= .exit id)→Mid A { X with dfs:=a4u dd::X.dfs} w0 bor st.H w { a with defers:=a4u dd::a.defers} (fx e s) W→Q e { a with defers:=a4u dd::a.defers} W):
 (Code.rangeFunc g ps assign body).wp X.P Q a w:=by
 have hw0:w0.heap.size≤w.heap.size:=hr.cls.fx0.size;obtain⟨X0,hX0⟩:∃X0:Cy,X0= { X with dfs:= []}:=⟨_,rfl⟩
 rw [←hX0]at hround;have hP0:POK X0.P X0.tt:=by rw [hX0];exact hP
 have hXP:X.P=X0.P:=by rw [hX0]
 have hA0:AG A X0.P w0 bor:=by rw [hX0];exact hA
 have hsz:a.tmps.size=X.nt:=hr.size.1;obtain⟨a0,ha0⟩:∃a0:Act,a0= { a with defers:= []}:=⟨_,rfl⟩
 obtain⟨J0,hJ0⟩:∃J0:Sy→(Nat→Prop)→World→Prop,J0=c5y A X0 w0 bor st.H w a0:=⟨_,rfl⟩
 have toMid:∀ {sy':Sy} {st':St} {a':Act} {W:World} (ds:List Deferred),Sim A st' sy'→Rel (cx X0 w0 bor) st' a' W→kept fz a a'→(∀d x,o4 sy'.T d=some x→d∈fz)→Fx (bs st.H) w W→(∀b,b∈bs st'.H→b∈bs st.H∨w.heap.size≤b)→∃st1,Sim A st1 sy'∧Rel (cx { X with dfs:=ds} w0 bor) st1 { a with defers:=ds} W∧st1.H=st'.H:=by
  intro sy' st' a' W ds h1 h2 h3 h4 h5 h6;obtain⟨g1,g2⟩:=c8c (a:= { a with defers:=ds}) h1 h2 h3 (by rw [hX0];exact hsz) h4 ds rfl
  exact⟨_,g1,by rw [hX0]at g2;exact g2,rfl⟩
 --the state between two rounds,at the act behind the loop
 have toEnd:∀ {sy':Sy} {O:Nat→Prop} {W:World} (dd:Nat),J0 sy' O W→(∀d x,o4 sy'.T d=some x→d∈fz)→Mid A { X with dfs:=a4u dd::X.dfs} w0 bor st.H w { a with defers:=a4u dd::a.defers} sy' W:=by
  intro sy' O W D h hd;rw [hJ0]at h;obtain⟨st1,g1,g2,g3,g4,g5⟩:=h;obtain⟨st2,e1,e2,e3⟩:=toMid (a4u D::X.dfs) g1 g2 (by rw [ha0];exact fun _ _=>rfl) hd g3 g4;rw [show a.defers=X.dfs from hr.dfs];exact⟨st2,e1,e2,g3,by rw [e3];exact g4⟩
 have giJ:∀ {sy':Sy} {O:Nat→Prop} {W:World},J0 sy' O W→GIW X.P W:=by
  intro sy' O W h;rw [hJ0]at h;obtain⟨_,_,g2,_⟩:=h;exact hA.fx g2.cls.fx0
 have J0turn:∀ {sy':Sy} {O:Nat→Prop} {W W':World} {row:Option Nat},J0 sy' O W→W.grownBy W' row→(∀r,row=some r→w.heap.size≤r∧∃o:Obj,W.heap[r]?=some o∧b6F o=true)→J0 sy' O W':=by
  intro sy' O W W' row h hg hrow;rw [hJ0]at h⊢;obtain⟨st1,hs,hr,hf,hb,hO⟩:=h;obtain⟨h1,h2⟩:=Sx.turn hs hr hg fun r e=>⟨r7 hw0 (hrow r e).1,(hrow r e).2⟩
  refine⟨_,h1,h2,⟨hg.os.trans hf.os,hg.tape.trans hf.tape,hg.output.trans hf.output,r7 hf.size hg.size,fun i hi hn=> ?_⟩,hb,hO⟩;rw [hg.block i (E3 hi hf.size) fun e=>by have:=(hrow i e.symm).1;omega];exact hf.block i hi hn
 refine(wpIn_wide (n:=2)).1 (wpIn_rangeFunc ?_);intro fn hfn;obtain⟨rec,hrec⟩:∃rec:LoopState→Option Code→Loop,rec=fun st pe=> { state:=st,pending:=pe,fn,tmps:=a.tmps,params:=ps,assign,body,defers:=w.heap.size}:=⟨_,rfl⟩
 obtain⟨W1,hW1⟩:∃W1,(w.alloc (.deferred (some []))).alloc (.loop (rec .ready none))=W1:=⟨_,rfl⟩;obtain⟨L,hL⟩:∃L,L=w.heap.size+1:=⟨_,rfl⟩;have hsize1:W1.heap.size=w.heap.size+2:=by rw [←hW1];simp
 have hL1:W1.heap[L]?=some (.loop (rec .ready none)):=by
  rw [←hW1,hL];have:=World.alloc_heap_new (w.alloc (.deferred (some []))) (.loop (rec .ready none));rwa [World.size_alloc]at this
 have hK1:W1.heap[w.heap.size]?=some (.deferred (some [])):=by
  rw [←hW1];exact(Below.heap_alloc _ _ _ (by simp)).trans (World.alloc_heap_new w _)
 have hg1:w.grownBy W1 none:=by
  rw [←hW1];have h1:=World.grownBy_alloc w (.deferred (some [])) none;have h2:=World.grownBy_alloc (w.alloc (.deferred (some []))) (.loop (rec .ready none)) none;exact⟨h2.os.trans h1.os,h2.tape.trans h1.tape,h2.output.trans h1.output,r7 h1.size h2.size,fun k hk hn=>(h2.block k (E3 hk h1.size) hn).trans (h1.block k hk hn)⟩
 obtain⟨st0,hs0,hr0,hb0⟩:=hstart.rel hA hs hr
 have hr0':Rel (cx X0 w0 bor) st0 a0 w:=by
  rw [hX0,ha0];exact⟨hr0.size,hr0.T,rfl,⟨hr0.cls.fx,hr0.cls.fx0,hr0.cls.own,hr0.cls.nd,hr0.cls.lb,hr0.cls.keys,hr0.cls.lt⟩,hr0.lo,hr0.iv⟩
 obtain⟨O0,hO0⟩:∃O0:Nat→Prop,O0=fun b=>b∈bs st0.H∨b=L∨b=w.heap.size:=⟨_,rfl⟩
 have hJ1:J0 (f s0) O0 W1:=J0turn (row:=none) (W:=w) (by rw [hJ0,hO0];exact⟨st0,hs0,hr0',Fx.refl _ _,fun b hb=> .inl (hb0 b hb),fun b hb=> .inl hb⟩) hg1 (by simp)
 refine⟨L, [{ target:= .collected w.heap.size,args:= #[]}],W1, { target:= .fn (.func gf) vl.toArray,args:= #[.func (.yield L) #[] #[]]},W1,gf,
  #[.func (.yield L) #[] #[]]++vl.toArray,W1, ?_, ?_, ?_, ?_,fun _=>by omega, ?_⟩
 · rw [←hW1,hrec,hL];exact run_enterLoop_outer _ _ _ _ _
 · simp only [resolve,hg];simp [go_sem]
 · intro f' _;trivial
 · simp [invoke,go_sem,heg]
 · refine(hit (okS A (now st w)) O0 W1 vl 0 L
    (fun pre O W=>(∃s,R pre s∧J0 (f s) O W)∧O L∧O w.heap.size∧W.heap[L]?=some (.loop (rec .ready none))∧W.heap[w.heap.size]?=some (.deferred (some [])))
    (fun pre W=>∃e s O,(e= .ret∨∃id,e= .exit id)∧RX e pre s∧J0 (fx e s) O W∧W.heap[L]?=some (.loop (rec .done (some (c3K e))))∧W.heap[w.heap.size]?=some (.deferred (some [])))
    (j1.mono (fun b hb=>⟨hb,hg1.block b hb.2.1 (by simp)⟩) _ _ hcaps) ?_ ?_ ((hA.giw hr.cls).same hg1.size fun b hb=>hg1.block b (E3 hb (hA.giw hr.cls).size) (by simp)) ?_ ?_ ?_ ⟨⟨s0,h0,hJ1⟩,by rw [hO0];exact .inr (.inl rfl),by rw [hO0];exact .inr (.inr rfl),hL1,hK1⟩).mono ?_
   · intro b hb;refine⟨by have:=hb.2.1;simp only [now]at this;omega,fun hO=> ?_⟩;rw [hO0]at hO;have h1:b<w.heap.size:=hb.2.1;rcases hO with h|h|h
     · exact hb.2.2 b (hb0 b h) rfl
     · omega
     · omega
   · intro b hb;rw [hO0]at hb;rcases hb with h|h|h
     · have:=hr0.cls.lt_size h;omega
     · omega
     · omega
   · rintro pre O A B ⟨⟨s,h1,h2⟩,h3,h4,h5,h6⟩ hg;exact⟨⟨s,h1,J0turn h2 hg (by simp)⟩,h3,h4,a3V hg h5,a3V hg h6⟩
   · rintro pre A B ⟨e,s,O,h1,h2,h3,h5,h6⟩ hg;exact⟨e,s,O,h1,h2,J0turn h3 hg (by simp),a3V hg h5,a3V hg h6⟩
   · --a round
     rintro pre x vals O W ⟨⟨s,hR,hm⟩,hOL,hOD,hl,hk⟩ hO hpre hvals;have hlt:L<W.heap.size:=hO L hOL;have hxm:x∈xs:=hpre.subset (by simp);have hy:=run_yield (P:=X.P) (args:=vals.toArray) hl (by rw [hrec];simp [←hvals.length,hps x hxm]);rw [hrec]at hy;rw [hJ0]at hm;obtain⟨st1,hs1,hr1,hf1,hb1,hO1⟩:=hm;have hs1':=hs1.now hr1.cls;have hr1':=hr1.now;refine⟨fn,_,assign,body,hy,roundIn_of_wpIn hfn ?_⟩
     have hz:(ps.zip vals.toArray).foldl (fun t (p,v)=>t.setIfInBounds p v) a.tmps=b2C ps.toList vals a.tmps:=by
      rw [←b9f,←Array.foldl_toList];simp
     rw [hz]
     have hvals2:j1 (okS A (now st1 W)) (now st1 W).w x vals:=j1.mono (fun b hb=>by
      refine⟨⟨⟨.inl hb.2.1, ?_⟩,hb.2.1,fun c hc e=>hb.2.2 (e▸hO1 c hc)⟩,rfl⟩;rcases hb.1 with h|h
      · exact h.1.2
      · exact hA.a b (.inl (by omega))) _ _ hvals
     obtain⟨RK,hRK,hrd⟩:=hround pre s x hpre hR;obtain⟨st2,sy2,k2,hs2,hr2,e2⟩:=b9x _ _ vals hvals2 hrd hs1' hr1';have e2:st2.H=st1.H:=e2;have hk0:kept fz a { tmps:=b2C ps.toList vals a.tmps,defers:= []}:=fun d hd=>b6c _ _ _ (b8t hfree d hd)
     have ht0:a0.tmps=a.tmps:=by rw [ha0]
     have hd0:a0.defers= []:=by rw [ha0]
     rw [ht0,hd0]at hr2;rw [hXP];refine b0X (X:=X0) L _ fz hA0 hP0 assign hak st2 sy2 a _ W _ _ hk0 k2 hs2 hr2 fun e st3 sy3 a3 W3 hp hk3 hs3 hlv3 hkp3=> ?_
     cases e with
     |exit id=>exact hk3.elim
     |ret=>exact hk3.elim
     |goto l=>exact hp.elim
     |panic c=>exact hp.elim
     |outgrown=>exact hp.elim
     |normal=>
     have hkeep3:b8q w.heap.size W W3:=b6w (H:=st2.H) (w:=w) (a:=a) hr2.cls hlv3.fx;have hl3:W3.heap[L]?=some (.loop (rec .ready none)):=hkeep3.same L _ (by omega) hl rfl;have hk3':W3.heap[w.heap.size]?=some (.deferred (some [])):=hkeep3.same _ _ (u0 _) hk rfl;have hlt3:L<W3.heap.size:=(O1.1 hl3).1;obtain⟨W2,hW2⟩:∃W2,W2=W3.putObj L (.loop { rec .ready none with state:= .busy}):=⟨_,rfl⟩
     have hg2:W3.grownBy W2 (some L):=by rw [hW2];exact grownBy_putObj' W3 L _
     have hl2:W2.heap[L]?=some (.loop { rec .ready none with state:= .busy}):=by rw [hW2];exact World.putObj_heap_same hlt3
     have hk2:W2.heap[w.heap.size]?=some (.deferred (some [])):=by rw [hW2];exact(World.putObj_heap_other (by omega)).trans hk3'
     obtain⟨hs4,hr4⟩:=Sx.turn hs3 hlv3.rel hg2 (by intro r e;cases e;exact⟨by omega,_,hl3,rfl⟩);refine⟨W2,by rw [hW2];exact run_beginRound hl3 (by rw [hrec]), ?_⟩
     have hO3:∀b,b∈bs st3.H→O b∨W.heap.size≤b:=fun b hb=>by
      rcases hlv3.bs b hb with h|h
      · exact .inl (hO1 b (e2▸h))
      · exact .inr h
     have hb3:∀b,b∈bs st3.H→b∈bs st.H∨w.heap.size≤b:=fun b hb=>by
      rcases hlv3.bs b hb with h|h
      · exact hb1 b (e2▸h)
      · exact .inr (r7 hf1.size h)
     have hfx3:Fx (bs st.H) w W3:=Fx.trans hf1 hlv3.fx (fun _ h=>h) fun i hi=>hb1 i (e2▸hi)
     have hfx2:Fx (bs st.H) w W2:=⟨hg2.os.trans hfx3.os,hg2.tape.trans hfx3.tape,hg2.output.trans hfx3.output,r7 hfx3.size hg2.size,fun i hi hn=>by
      rw [hg2.block i (E3 hi hfx3.size) (by simp;omega)];exact hfx3.block i hi hn⟩
     refine b0X (X:=X0) L _ fz hA0 hP0 body hbk _ sy3 a a3 W2 _ _ hkp3 hk3 hs4 hr4 fun e st4 sy4 a4 W4 hp hk hs4 hl4 hkp4=> ?_
     have hkeep:b8q w.heap.size W2 W4:=b6w (H:=st3.H) (w:=w) (a:=a) hr4.cls hl4.fx;have hfx4:Fx (bs st.H) w W4:=Fx.trans hfx2 hl4.fx (fun _ h=>h) fun i hi=>hb3 i hi
     have hbs4:∀b,b∈bs st4.H→b∈bs st.H∨w.heap.size≤b:=fun b hb=>by
      rcases hl4.bs b hb with h|h
      · exact hb3 b h
      · exact .inr (r7 hfx2.size h)
     have hl4':W4.heap[L]?=some (.loop { rec .ready none with state:= .busy}):=hkeep.same L _ (by omega) hl2 rfl
     have hk4':W4.heap[w.heap.size]?=some (.deferred (some [])):=hkeep.same _ _ (u0 _) hk2 rfl;have hlt4:L<W4.heap.size:=(O1.1 hl4').1;obtain⟨O',hO'⟩:∃O':Nat→Prop,O'=fun b=>b∈bs st4.H∨b=L∨b=w.heap.size:=⟨_,rfl⟩
     have fin:∀(jump:Option Code) {sy5:Sy},F6 sy4 sy5→(∀d x,o4 sy5.T d=some x→d∈fz)→
      (Instr.endRound L jump).run X0.P W4= .ok (.bool jump.isNone) (W4.putObj L (.loop (rec (if jump.isNone then .ready else .done) jump)))∧
      (W4.putObj L (.loop (rec (if jump.isNone then .ready else .done) jump))).heap[L]?=some (.loop (rec (if jump.isNone then .ready else .done) jump))∧
      (W4.putObj L (.loop (rec (if jump.isNone then .ready else .done) jump))).heap[w.heap.size]?=some (.deferred (some []))∧J0 sy5 O' (W4.putObj L (.loop (rec (if jump.isNone then .ready else .done) jump))):=by
      intro jump sy5 hsub hdm;have hrun:=run_endRound (P:=X0.P) jump hl4';obtain⟨st5,g1,g2,g3⟩:=hsub.rel hA0 hs4 hl4.rel;obtain⟨st6,i1,i2,i3⟩:=toMid [] g1 g2 hkp4 hdm hfx4 fun b hb=>hbs4 b (g3 b hb)
      refine⟨by rw [hrec]at hrun⊢;exact hrun,World.putObj_heap_same hlt4,(World.putObj_heap_other (by omega)).trans hk4', ?_⟩;refine J0turn (W:=W4) (row:=some L) ?_ (grownBy_putObj' W4 L _) (by intro r e;cases e;exact⟨by omega,_,hl4',rfl⟩);rw [hJ0];refine⟨st6,i1,by rw [hX0,ha0];exact i2,hfx4,by rw [i3];exact fun b hb=>hbs4 b (g3 b hb), ?_⟩;rw [i3,hO'];exact fun b hb=> .inl (g3 b hb)
     have hk:=hRK _ _ hk;cases e with
     |normal=>
      obtain⟨s',q1,q2⟩:=hk;obtain⟨f1,f2,f3,f4⟩:=fin none q2 (hdom s');refine⟨_,_,f1,(hXP▸giJ f4), .inl ⟨rfl,O',⟨⟨s',q1,f4⟩,by rw [hO'];exact .inr (.inl rfl),by rw [hO'];exact .inr (.inr rfl),f2,f3⟩, ?_, ?_, ?_⟩⟩
      · have h1:=hg2.size;have h2:=hkeep.size;have h3:=hkeep3.size;simp;omega
      · intro b hb;rw [hO']at hb;rcases hb with h|h|h
        · refine⟨by have:=hl4.rel.cls.lt_size h;simpa using this, ?_⟩
          rcases hl4.bs b h with h|h
          · exact hO3 b h
          · exact .inr (r7 hkeep3.size (r7 hg2.size h))
        · subst h;exact⟨by simpa using hlt4, .inl hOL⟩
        · subst h;exact⟨by simp;omega, .inl hOD⟩
      · intro b hb hn;have hne:b≠L:=fun e=>hn (e▸hOL)
        rw [World.putObj_heap_other hne];have hb3':b<W3.heap.size:=E3 hb hkeep3.size
        rw [hl4.fx.block b (E3 hb3' hg2.size) fun c hc e=>by
         rcases hO3 c hc with h|h
         · exact hn (e▸h)
         · omega]
        rw [hg2.block b hb3' (by simpa using hne)]
        exact hlv3.fx.block b hb fun c hc e=>hn (e▸hO1 c (e2▸hc))
     |ret=>
      obtain⟨s',q1,q2⟩:=hk;obtain⟨f1,f2,f3,f4⟩:=fin (some .ret) q2 (hdomx _ s');exact⟨_,_,f1,(hXP▸giJ f4), .inr ⟨rfl, .ret,s',O', .inl rfl,q1,f4,f2,f3⟩⟩
     |exit id=>
      obtain⟨s',q1,q2⟩:=hk;obtain⟨f1,f2,f3,f4⟩:=fin (some (.exit id)) q2 (hdomx _ s');exact⟨_,_,f1,(hXP▸giJ f4), .inr ⟨rfl, .exit id,s',O', .inr ⟨id,rfl⟩,q1,f4,f2,f3⟩⟩
     |goto l=>exact hp.elim
     |panic c=>exact hp.elim
     |outgrown=>exact hp.elim
   · rintro e W2 ⟨⟨v,rfl⟩,(⟨O,⟨s,hR,hm⟩,hOL,hOD,hl,hk⟩|⟨pre,hpre,e,s,O,he,hRX,hm,hl,hk⟩)⟩
     · refine⟨none,_,by have:=run_endLoop (P:=X.P) hl (by rw [hrec];simp);rw [hrec]at this;exact this, ?_⟩;exact hdone _ s _ (u0 _) ((World.putObj_heap_other (by omega)).trans hk) hR (toEnd _ (J0turn hm (grownBy_putObj' W2 L _) (by intro r e;cases e;exact⟨by omega,_,hl,rfl⟩)) (hdom s))
     · refine⟨some (c3K e),_,by have:=run_endLoop (P:=X.P) hl (by rw [hrec];simp);rw [hrec]at this;exact this, ?_⟩;rcases he with rfl|⟨id,rfl⟩
       · refine wpIn_ret ?_;exact hstop _ .ret pre s _ (u0 _) ((World.putObj_heap_other (by omega)).trans hk) hpre hRX (.inl rfl) (toEnd _ (J0turn hm (grownBy_putObj' W2 L _) (by intro r e;cases e;exact⟨by omega,_,hl,rfl⟩)) (hdomx _ s))
       · refine wpIn_exit ?_;exact hstop _ (.exit id) pre s _ (u0 _) ((World.putObj_heap_other (by omega)).trans hk) hpre hRX (.inr ⟨id,rfl⟩) (toEnd _ (J0turn hm (grownBy_putObj' W2 L _) (by intro r e;cases e;exact⟨by omega,_,hl,rfl⟩)) (hdomx _ s))
end
structure a3f (X:Cy) (g:Operand) (ps:Array Tmp) (assign body:Code) (st:Sy) (K:Exit→Sy→Prop):Prop where
 ex:∃(gf:FuncId) (caps:List D) (xs:List (List D)) (fz:List Nat) (σ:Type) (f:σ→Sy) (fx:Exit→σ→Sy) (R:List (List D)→σ→Prop) (RX:Exit→List (List D)→σ→Prop) (s0:σ),
  evY st g=some (.fn gf [] caps)∧J7 caps=true∧a5w X.P gf caps xs∧(∀args w,(callFunc gf args).run X.P w= .ok (.enter gf args) w)∧(∀x,x∈xs→x.length=ps.size)∧H4 fz assign=true∧H4 fz body=true∧a6L fz ps.toList=true∧
  F6 st (f s0)∧R [] s0∧(∀s d x,o4 (f s).T d=some x→d∈fz)∧(∀e s d x,o4 (fx e s).T d=some x→d∈fz)∧
  (∀(pre:List (List D)) (s:σ) (x:List D),pre++ [x]<+:xs→R pre s→∃RK:Exit→Sy→Prop,(∀e sy,RK e sy→c3l f fx R RX (pre++ [x]) e sy)∧b2T { X with dfs:= []} ps.toList x (f s) fun st1=>I9 { X with dfs:= []} assign st1 (a9Y { X with dfs:= []} body RK))∧
  (∀s,R xs s→K .normal (f s))∧(∀e pre s,pre<+:xs→RX e pre s→(e= .ret∨∃id,e= .exit id)→K e (fx e s))
def a4M (X:Cy):Code→Sy→(Exit→Sy→Prop)→Prop
 | .seq a b,st,K=>a4M X a st fun e st'=>match e with
  | .normal=>a4M X b st' K
  |e=>K e st'
 | .block id c,st,K=>a4M X c st fun e st'=>match e with
  | .exit j=>(match Nat.beq j id with|true=>K .normal st'|false=>K (.exit j) st')
  |e=>K e st'
 | .cond c t e,st,K=>match evY st c with
  |some (.v (.bool b))=>VIf b (a4M X t st K) (a4M X e st K)
  |_=>False
 | .scope c,st,K=>a4M X c st K
 | .rangeFunc g ps assign body,st,K=>a3f X g ps assign body st K
 |c,st,K=>∀ds,I9 { X with dfs:=ds} c st K
def a7j (ds ds':List Deferred) (w w':World):Prop:=∃l:List Nat,ds'=l.map a4u++ds∧l.Nodup∧∀D,D∈l→w.heap.size≤D∧w'.heap[D]?=some (.deferred (some []))
theorem a7j.refl (ds:List Deferred) (w w':World):a7j ds ds w w':=⟨[],rfl,by simp,by simp⟩
section
variable {A : Nat → Prop} {X : Cy} {w0 : World} {bor : List Nat}
theorem c4Q {H:Hp} {nk:Nat} {ws w:World} {D:Nat} {o:Obj} (hc:Cls (cx X w0 bor) H nk ws w) (hD:w.heap[D]?=some o) (ho:b6F o=true):∀b,b∈bs H→b≠D:=by
 intro b hb e;subst e;obtain⟨j,e,he,hbe⟩:=u2.1 hb;obtain⟨q,hcl,hq⟩:=a4T (hc.own j e he) hbe;rw [hcl]at hD;cases hD;rw [hq]at ho;cases ho
theorem a7j.trans {X1:Cy} {ds ds1 ds2:List Deferred} {H:Hp} {nk:Nat} {ws w w1 w2:World} (h:a7j ds ds1 w w1) (k:a7j ds1 ds2 w1 w2) (hc:Cls (cx X1 w0 bor) H nk ws w1) (hf:Fx (bs H) w1 w2) (hw:w.heap.size≤w1.heap.size):a7j ds ds2 w w2:=by
 obtain⟨l,rfl,hn,hl⟩:=h;obtain⟨r,rfl,hm,hr⟩:=k;have hlt:∀D,D∈l→D<w1.heap.size:=fun D hD=>(O1.1 (hl D hD).2).1
 refine⟨r++l,by simp, ?_,fun D hD=> ?_⟩
 · rw [a3z];refine⟨hm,hn,fun x hx y hy e=> ?_⟩;subst e;have:=(hr x hx).1;have:=hlt x hy;omega
 · rcases B2.1 hD with h|h
   · exact⟨r7 hw (hr D h).1,(hr D h).2⟩
   · refine⟨(hl D h).1, ?_⟩;rw [hf.block D (hlt D h) (c4Q hc (hl D h).2 rfl)];exact(hl D h).2
theorem Lv.hop {X1 X2:Cx} {H:Hp} {w w1 w2:World} {st1 st2:St} {a1 a2:Act} (h:Lv X1 H w st1 a1 w1) (k:Lv X2 st1.H w1 st2 a2 w2):Lv X2 H w st2 a2 w2:=
 ⟨k.rel,Fx.trans h.fx k.fx (fun _ h=>h) fun i hi=>h.bs i hi,fun b hb=>by
  rcases k.bs b hb with h1|h1
  · exact h.bs b h1
  · exact .inr (r7 h.fx.size h1)⟩
theorem c1T (hA:AG A X.P w0 bor) (hP:POK X.P X.tt) (c:Code):∀(st:St) (sy:Sy) (a:Act) (w:World) (ds:List Deferred) (K:Exit→Sy→Prop) (Q:Exit→Act→World→Prop),a4M X c sy K→Sim A st sy→Rel (cx { X with dfs:=ds} w0 bor) st a w→
 (∀e st' sy' a' w' ds',plain e→K e sy'→Sim A st' sy'→Lv (cx { X with dfs:=ds'} w0 bor) st.H w st' a' w'→a7j ds ds' w w'→Q e a' w')→c.wp X.P Q a w:=by
 have plainC:∀(c:Code) (st:St) (sy:Sy) (a:Act) (w:World) (ds:List Deferred) (K:Exit→Sy→Prop) (Q:Exit→Act→World→Prop),(∀ds,I9 { X with dfs:=ds} c sy K)→Sim A st sy→Rel (cx { X with dfs:=ds} w0 bor) st a w→
  (∀e st' sy' a' w' ds',plain e→K e sy'→Sim A st' sy'→Lv (cx { X with dfs:=ds'} w0 bor) st.H w st' a' w'→a7j ds ds' w w'→Q e a' w')→c.wp X.P Q a w:=
  fun c st sy a w ds K Q h hs hr hQ=>a2s (X:= { X with dfs:=ds}) hA hP c st sy a w K Q (h ds) hs hr fun e st' sy' a' w' hp hk hs' hl=>hQ e st' sy' a' w' ds hp hk hs' hl (a7j.refl _ _ _)
 induction c with
 |seq x y ihx ihy=>
  intro st sy a w ds K Q h hs hr hQ;refine wp_seq (ihx st sy a w ds _ _ h hs hr fun e st1 sy1 a1 w1 ds1 hp hk hs1 hl hm=> ?_);cases e with
  |normal=>exact ihy st1 sy1 a1 w1 ds1 K Q hk hs1 hl.rel fun e st2 sy2 a2 w2 ds2 hp hk2 hs2 hl2 hm2=>hQ e st2 sy2 a2 w2 ds2 hp hk2 hs2 (Lv.hop hl hl2) (hm.trans hm2 hl.rel.cls hl2.fx hl.fx.size)
  |exit id=>exact hQ _ _ _ _ _ _ hp hk hs1 hl hm
  |ret=>exact hQ _ _ _ _ _ _ hp hk hs1 hl hm
  |goto l=>exact hp.elim
  |panic c=>exact hp.elim
  |outgrown=>exact hp.elim
 |block id c ih=>
  intro st sy a w ds K Q h hs hr hQ;refine wp_block (ih st sy a w ds _ _ h hs hr fun e st1 sy1 a1 w1 ds1 hp hk hs1 hl hm=> ?_);cases e with
  |normal=>exact hQ _ _ _ _ _ _ hp hk hs1 hl hm
  |exit j=>
   simp only [Exit.inBlock];simp only at hk;split at hk
   · rename_i hb;rw [e9 (r6 hb)];exact hQ .normal _ _ _ _ _ trivial hk hs1 hl hm
   · rename_i hb;rw [i6 (a0L hb)];exact hQ _ _ _ _ _ _ hp hk hs1 hl hm
  |ret=>exact hQ _ _ _ _ _ _ hp hk hs1 hl hm
  |goto l=>exact hp.elim
  |panic c=>exact hp.elim
  |outgrown=>exact hp.elim
 |cond c x y ihx ihy=>
  intro st sy a w ds K Q h hs hr hQ;simp only [a4M]at h;split at h
  · rename_i b hcd;obtain⟨s,h1,h2,_⟩:=j9 hs hcd;have:=h2.sc;subst this;have hb:a.eval c= .bool b:=by simpa [den]using (hr.ev c _ h1).2
    cases b with
    |true=>exact wp_cond_true hb (ihx st sy a w ds K Q h hs hr hQ)
    |false=>exact wp_cond_false hb (ihy st sy a w ds K Q h hs hr hQ)
  · exact h.elim
 |scope c ih=>
  intro st sy a w ds K Q h hs hr hQ;simp only [a4M]at h;refine wp_scope_straight (ih st sy a w ds K _ h hs hr fun e st1 sy1 a1 w1 ds1 hp hk hs1 hl hm=> ?_);cases e with
  |normal=>exact hQ _ _ _ _ _ _ hp hk hs1 hl hm
  |exit j=>exact hQ _ _ _ _ _ _ hp hk hs1 hl hm
  |ret=>exact hQ _ _ _ _ _ _ hp hk hs1 hl hm
  |goto l=>exact hp.elim
  |panic c=>exact hp.elim
  |outgrown=>exact hp.elim
 |rangeFunc g ps assign body _ _=>
  intro st sy a w ds K Q h hs hr hQ;have h:a3f X g ps assign body sy K:=h;obtain⟨gf,caps,xs,fz,σ,f,fx,R,RX,s0,hg,hcl,hit,heg,hps,hasg,hbk,hfree,hst,h0,hdom,hdomx,hround,hdone,hstop⟩:=h.ex;obtain⟨s,h1,h2,_⟩:=j9 hs hg;have hev:=(hr.ev g _ h1).2;have h2':=d8.mono (a2Z hr.cls) (fun _ _ h=>h) _ _ h2;have hrep:=a1U (H:=st.H) _ _ h2' (by simpa [Q5,J7]using hcl)
  simp only [Rep]at hrep;obtain⟨p,q,e1,e2,e3⟩:=hrep
  have hp0:p= #[]:=by
   cases hp:p.toList with
   |nil=>exact Array.toList_inj.1 (by simp [hp])
   |cons v l=>rw [hp]at e2;simp [j1]at e2
  refine c1K (X:= { X with dfs:=ds}) hA hP hs hr (vl:=q.toList) (by rw [hev,e1,hp0]) e3 hit heg hps hasg hbk hfree f fx R RX s0 hst h0 hdom hdomx hround (fun D s W hD hdef hR hm=> ?_) fun D e pre s W hD hdef hpre hRX he hm=> ?_
  · obtain⟨st1,g1,g2,g3,g4⟩:=hm.ex;exact hQ .normal st1 _ _ W _ trivial (hdone s hR) g1 ⟨g2,g3,g4⟩ ⟨[D],rfl,by simp,by simpa using ⟨hD,hdef⟩⟩
  · obtain⟨st1,g1,g2,g3,g4⟩:=hm.ex;exact hQ e st1 _ _ W _ (by rcases he with rfl|⟨id,rfl⟩<;>trivial) (hstop e pre s hpre hRX he) g1 ⟨g2,g3,g4⟩ ⟨[D],rfl,by simp,by simpa using ⟨hD,hdef⟩⟩
 |_=>exact plainC _
end
theorem b1k {X:Cy} {ds:List Deferred} {st:Sy}:∀rs:List ResultVar,V5 { X with dfs:=ds} st rs=V5 X st rs
 | []=>rfl
 | .tmp t::r=>by simp only [V5,b1k r]
 | .cell a t::r=>by simp only [V5,b1k r]
section
variable {A : Nat → Prop} {X : Cy} {w0 : World} {bor : List Nat} {sy : Sy} {a : Act}
theorem b2Z (hA:AG A X.P w0 bor) (hP:POK X.P X.tt) {fn:Func} {Qr:D→Prop} {Rr:Ending→World→Prop} {n:Nat} {ds:List Deferred}
 (hk:match V5 X sy fn.results.toList with
  |some [s]=>a1b sy s Qr
  |some l=>a1b sy (.tup l) Qr
  |none=>False)
 (hR:∀v r w',Qr r→Rep (fun b=>A b∧b<w'.heap.size) w' r v→Fx bor w0 w'→Rr (.returned v) w'):∀(l:List Nat) (st:St) (W:World),Sim A st sy→Rel (cx { X with dfs:=ds} w0 bor) st a W→l.Nodup→(∀D,D∈l→w0.heap.size≤D∧W.heap[D]?=some (.deferred (some [])))→
 LeavesInM Fence.wide n X.P fn a.tmps Rr (l.map a4u) .returning W
 | [],st,W,hs,hr,_,_=>by
  have main:∀ {r:D} {s:SV},a1b sy r Qr→d8 (okS A st) st.w (u6 st) r s→(results fn a.tmps).run X.P W= .ok (den st.H s) W→∃v,(results fn a.tmps).run X.P W= .ok v W∧Rr (.returned v) W:=by
   intro r s hret hrel hrun;obtain⟨r',hq,hrp⟩:=b1o (X:= { X with dfs:=ds}) hA hret hs hr hrel
   exact⟨_,hrun,hR _ _ _ hq hrp hr.cls.fx0⟩
  show∃v,(results fn a.tmps).run X.P W= .ok v W∧Rr (.returned v) W;cases hres:V5 X sy fn.results.toList with
  |none=>rw [hres]at hk;exact hk.elim
  |some l=>
   rw [hres]at hk;rw [←b1k (ds:=ds)]at hres;obtain⟨l',h1,h2⟩:=a2h (X:= { X with dfs:=ds}) (w0:=w0) (bor:=bor) hs hres
   have hrun:=a0F (X:=cx { X with dfs:=ds} w0 bor) hP.tt hr h1
   match l,l',h2,hk,hrun with
   | [s], [s'],h2,hk,hrun=>exact main hk h2.1 hrun
   | [], [],h2,hk,hrun=>exact main (s:= .tup []) hk (by simp only [d8];exact .inl ⟨[],rfl,trivial⟩) (by simpa [den,a7W,cx]using hrun)
   |x::y::l,x'::y'::l',h2,hk,hrun=>exact main (s:= .tup (x'::y'::l')) hk (by simp only [d8];exact .inl ⟨_,rfl,h2⟩) (by simpa [den,a7W,cx]using hrun)
   | [],_::_,h2,_,_=>simp [d9]at h2
   | [_], [],h2,_,_=>simp [d9]at h2
   | [_],_::_::_,h2,_,_=>simp [d9]at h2
   |_::_::_, [],h2,_,_=>simp [d9]at h2
   |_::_::_, [_],h2,_,_=>simp [d9]at h2
 |D::l,st,W,hs,hr,hn,hl=>by
  obtain⟨h1,h2⟩:=hl D F5;rw [a1r]at hn;refine⟨by simp, .inl ⟨D,_,rfl,run_takeDeferred h2, ?_⟩⟩;obtain⟨g1,g2⟩:=turn hs hr (grownBy_putObj' W D (.deferred none)) fun r e=>by cases e;exact⟨h1,_,h2,rfl⟩
  refine b2Z hA hP hk hR l _ _ g1 g2 hn.2 fun D' hD'=>⟨(hl D' (A9 _ hD')).1, ?_⟩
  have hne:D'≠D:=fun e=>hn.1 (by rw [←e];exact hD')
  rw [World.putObj_heap_other (by first|exact hne|exact hne.symm)]
  exact(hl D' (A9 _ hD')).2
end
theorem c5F {X:Cy} (hP:POK X.P X.tt) {f:FuncId} {fn:Func} {c:Code} (args:List D) {Qr:D→Prop} (hf:X.P.funcs[f]?=some fn) (hb:fn.body=some c) (hn:X.nt=fn.ntmps) (hl:args.length≤fn.ntmps)
 (h:a4M X c ⟨a0t 0 args, [],0⟩ (c0x X fn.results.toList Qr)) (hg:fn.ntmps≤E7:=by exact F7 rfl):q8 X.P f args Qr:=by
 intro ok w vl hrep hok hgi;have hA:=AG.nil ok hgi;refine(callsIn_wide (n:=2)).1 (callsIn_of_wp_marks hf hb trivial (wpIn_wide.2 (c1T (A:=fun b=>b<w.heap.size→ok b) (w0:=w) (bor:= []) hA hP c ⟨a2p 0 (vs vl), [],0,w,w.heap.size, []⟩ ⟨a0t 0 args, [],0⟩ _ _ [] _ _ h ?_ ?_ fun e st' sy' a' w' ds' hp hk hs' hlv hm=> ?_)) rfl)
 · refine⟨fun d x hx=> ?_,fun k e he=>by simp [j7]at he,rfl,fun j _=>a2m,fun _ _=>rfl⟩;obtain⟨_,h2⟩:=a0M hx;obtain⟨y,h3,h4⟩:=hrep.get h2;right;refine⟨.v y,a3v (J4 _) ?_,Rep.rel _ _ (Rep.mono (fun b hb=>⟨⟨⟨.inl (hok b hb),fun _=>hb⟩,hok b hb,fun c hc=>by simp [bs]at hc⟩,rfl⟩) _ _ h4)⟩;rw [a5o,h3];rfl
 · refine⟨by simp [cx,hn,←hrep.length];omega,fun d s hs=> ?_,rfl,Cls.nil (cx { X with dfs:= []} w []) 0,u0 _,by simp⟩
   obtain⟨_,h2⟩:=a0O (n:=0) hs;simp only [a4O]at h2;rw [a5o]at h2;cases hv:vl[d]? with
   |none=>rw [hv]at h2;cases h2
   |some y=>
    rw [hv]at h2;cases h2;right;have hlt:=(I5.1 hv).1;rw [G9,e9 (by have:=hrep.length;omega),a4q (by simpa using hlt)]
    simpa [den]using hv
 · obtain⟨l,rfl,hnd,hD⟩:=hm
   have fin:(match V5 X sy' fn.results.toList with
    |some [s]=>a1b sy' s Qr
    |some l=>a1b sy' (.tup l) Qr
    |none=>False)→LeavesInM Fence.wide 2 X.P fn a'.tmps (fun e w'=>∃v r,e= .returned v∧Qr r∧Rep (fun b=>ok b∨(w.heap.size≤b∧b<w'.heap.size)) w' r v∧Below w.heap.size w w') a'.defers .returning w':=by
    intro hk;rw [show a'.defers=l.map a4u from by rw [show a'.defers=_ from hlv.rel.dfs];simp [cx]];refine b2Z hA hP hk (fun v r w' hq hrp hfx=>⟨v,r,rfl,hq,Rep.mono (fun b hb=>⟨?_,rfl⟩) _ _ hrp,hfx.below⟩) l st' w' hs' hlv.rel hnd hD;by_cases hlt:b<w.heap.size
    · exact .inl (hb.1 hlt)
    · exact .inr ⟨by omega,hb.2⟩
   cases e with
   |normal=>exact fin hk
   |ret=>exact fin hk
   |exit id=>exact hk.elim
   |goto l=>exact hp.elim
   |panic c=>exact hp.elim
   |outgrown=>exact hp.elim
def a5i (ops:Array Oper) (m i:Nat):Bool:=match ops[m]? with
 |some o=>o.after.toList.any fun e=>Region.binds .any e&&Nat.beq e.on i
 |none=>false
def b4Y (ops:Array Oper):Bool:=(List.range ops.size).all fun m=>match ops[m]? with
 |some o=>o.after.toList.all fun e=> !Region.binds .any e||Nat.blt e.on m
 |none=>true
def c8h (ops:Array Oper) (j:Nat):Bool:=(List.range j).all fun i=>(List.range (j+1)).any fun m=>Nat.blt i m&&a5i ops m i
def c2T (ops:Array Oper) (j:Nat):Bool:=(List.range ops.size).all fun k=>Nat.ble k j||a5i ops k (k-1)
def c4o (ops:Array Oper) (j:Nat):Bool:=(List.range j).all fun i=>match ops[i]? with
 |some o=>match o.guard with|some (g,_)=>Nat.blt g j|none=>true
 |none=>true
def a5Y (ops:Array Oper) (j:Nat):Bool:=b4Y ops&&(c8h ops j&&(c2T ops j&&(c4o ops j&&Nat.blt j ops.size)))
theorem a8R {ops:Array Oper} {m i:Nat}:a5i ops m i=true↔∃o e,ops[m]?=some o∧e∈o.after.toList∧Region.binds .any e=true∧e.on=i:=by
 unfold a5i;constructor
 · intro h;split at h
   · rename_i o ho;obtain⟨e,h1,h2⟩:=List.any_eq_true.1 h;simp only [y6]at h2;exact⟨o,e,ho,h1,h2.1,r6 h2.2⟩
   · cases h
 · rintro⟨o,e,ho,h1,h2,h3⟩;rw [ho];exact List.any_eq_true.2 ⟨e,h1,by simp [h2,h3]⟩
theorem b5A {ops:Array Oper} (h:b4Y ops=true) {m i:Nat} (hb:a5i ops m i=true):i<m∧m<ops.size:=by
 obtain⟨o,e,ho,h1,h2,h3⟩:=a8R.1 hb;have hm:m<ops.size:=(O1.1 ho).1;have h4:=L4.1 h m (a4y.2 hm);rw [ho]at h4;have h5:=L4.1 h4 e h1;simp [h2]at h5;exact⟨by omega,hm⟩
theorem a1M {ops:Array Oper} {listed:Array Bool} (hsz:listed.size=ops.size) {i:Nat}:i∈Region.ready .any ops listed↔i<ops.size∧listed[i]?=some false∧∀k,a5i ops i k=true→listed[k]?=some true:=by
 unfold Region.ready;rw [a6y,a4y];constructor
 · rintro⟨h1,h2⟩;simp only [y6]at h2;have hl:i<listed.size:=by omega
   refine⟨h1,by simpa [Array.getD,hl]using h2.1,fun k hk=> ?_⟩
   obtain⟨o,e,ho,g1,g2,g3⟩:=a8R.1 hk;rw [ho]at h2;have:=h2.2;simp only [a3j,Option.getD_some]at this;rw [←Array.all_toList]at this;have:=L4.1 this e g1;simp only [g2,a2n,Bool.false_or,g3]at this;by_cases hkl:k<listed.size
   · simpa [Array.getD,hkl]using this
   · simp [Array.getD,hkl]at this
 · rintro⟨h1,h2,h3⟩;refine⟨h1, ?_⟩;have hl:i<listed.size:=by omega
   rw [a1l hl]at h2;simp only [y6];refine⟨by simp [Array.getD,hl];simpa using h2, ?_⟩
   rw [a1l h1];simp only [a3j,Option.getD_some];rw [←Array.all_toList];refine L4.2 fun e he=> ?_
   cases hb:Region.binds .any e with
   |false=>rfl
   |true=>
    have:=h3 e.on (a8R.2 ⟨_,e,a1l h1,he,hb,rfl⟩);obtain⟨hk,hv⟩:=O1.1 this;simp [Array.getD,hk,hv]
def c2o (ops:Array Oper) (listed:Array Bool):Prop:=∀m i,listed[m]?=some true→a5i ops m i=true→listed[i]?=some true
theorem c2o.set {ops:Array Oper} {listed:Array Bool} (hsz:listed.size=ops.size) (h:c2o ops listed) {i:Nat} (hi:i∈Region.ready .any ops listed):c2o ops (listed.setIfInBounds i true):=by
 obtain⟨h1,_,h3⟩:=(a1M hsz).1 hi;intro m k hm hk;by_cases hki:i=k
 · subst hki;simp [b6K,hsz,h1]
 · rw [a1q hki];by_cases hmi:i=m
   · subst hmi;exact h3 k hk
   · rw [a1q hmi]at hm;exact h m k hm hk
theorem a9X {ops:Array Oper} (hb:b4Y ops=true) {listed:Array Bool} (hsz:listed.size=ops.size) (h:Region.ready .any ops listed= []):∀i,i<ops.size→listed[i]?=some true:=by
 intro i
 induction i using Nat.strongRecOn with
 |ind i ih=>
  intro hi;have hl:i<listed.size:=by omega
  rw [a1l hl];cases hv:listed[i]with
  |true=>rfl
  |false=>
   exfalso
   have:i∈Region.ready .any ops listed:=(a1M hsz).2 ⟨hi,by rw [a1l hl,hv],fun k hk=>by
    obtain⟨hlt,_⟩:=b5A hb hk;exact ih k hlt (by omega)⟩
   rw [h]at this;cases this
section
variable {P : Program} {n : Nat} {ops : Array Oper} {Q : Exit → Act → World → Prop}
theorem b1u (hb:b4Y ops=true) {j:Nat} (hp:c2T ops j=true):∀(r m fuel:Nat) (listed:Array Bool) (a:Act) (w:World),m+r=ops.size→j<m→listed.size=ops.size→(∀i,i<m→listed[i]?=some true)→(∀i,m≤i→i<ops.size→listed[i]?=some false)→r≤fuel→
 wpListIn Fence.wide n P ops Q (ops.toList.drop m) a w→wpAnyIn Fence.wide n P .any ops Q fuel listed a w
 |0,m,fuel,listed,a,w,hm,hj,hsz,h1,h2,hf,h=>by
  have hnil:Region.ready .any ops listed= []:=List.eq_nil_iff_forall_not_mem.2 fun i hi=>by
   obtain⟨g1,g2,_⟩:=(a1M hsz).1 hi;rw [h1 i (by omega)]at g2;cases g2
  rw [List.drop_of_length_le (by simp;omega)]at h;cases fuel with
  |zero=>exact⟨hnil,h⟩
  |succ fuel=>exact⟨fun _=>h,fun i hi=>by rw [hnil]at hi;cases hi⟩
 |r+1,m,0,listed,a,w,hm,hj,hsz,h1,h2,hf,h=>by omega
 |r+1,m,fuel+1,listed,a,w,hm,hj,hsz,h1,h2,hf,h=>by
  have hlt:m<ops.size:=by omega
  have hrd:∀i,i∈Region.ready .any ops listed→i=m:=by
   intro i hi;obtain⟨g1,g2,g3⟩:=(a1M hsz).1 hi;rcases Nat.lt_trichotomy i m with h|h|h
   · rw [h1 i h]at g2;cases g2
   · exact h
   · exfalso;have hk:=L4.1 hp i (a4y.2 g1);have hnb:Nat.ble i j=false:=by cases hx:Nat.ble i j with|false=>rfl|true=>have:=F7 hx;omega
     rw [hnb,Bool.false_or]at hk;have:=g3 _ hk;rw [h2 (i-1) (by omega) (by omega)]at this;cases this
  refine⟨fun hnil=> ?_,fun i hi=> ?_⟩
  · have:=a9X hb hsz hnil m hlt;rw [h2 m (u0 _) hlt]at this;cases this
  · obtain rfl:=hrd i hi
    have hd:ops.toList.drop i=ops[i]::ops.toList.drop (i+1):=by
     rw [b3T (by simpa using hlt)];simp
    rw [hd]at h;simp only [wpListIn]at h;unfold wpOpIn;rw [a1l hlt];simp only
    have goOn:∀a w,wpListIn Fence.wide n P ops Q (ops.toList.drop (i+1)) a w→wpAnyIn Fence.wide n P .any ops Q fuel (listed.setIfInBounds i true) a w:=by
     intro a w h;refine b1u hb hp r (i+1) fuel _ a w (by omega) (by omega) (by simpa using hsz) (fun k hk=> ?_) (fun k hk hk2=> ?_) (by omega) h
     · by_cases e:i=k
       · subst e;simp [b6K,hsz,hlt]
       · rw [a1q e];exact h1 k (by omega)
     · rw [a1q (by omega)];exact h2 k (by omega) hk2
    split at h
    · rename_i hw;rw [e9 hw];exact Oper.wpIn_mono goOn h
    · rename_i hw;rw [i6 hw];exact⟨h.1,goOn _ _ h.2⟩
theorem c4W {j:Nat} (hc:a5Y ops j=true) {K:Act→World→Prop} (hK:∀a w,K a w→wpListIn Fence.wide n P ops Q (ops.toList.drop j) a w):
 ∀(fuel fuel2:Nat) (ls listed:Array Bool) (a:Act) (w:World),ls.size=j→listed.size=ops.size→(∀i,i<j→listed[i]?=ls[i]?)→(∀i,j≤i→i<ops.size→listed[i]?=some false)→c2o ops listed→fuel+(ops.size-j)≤fuel2→
 wpAnyIn Fence.wide n P .any (ops.extract 0 j) (fun e a w=>e= .normal∧K a w) fuel ls a w→wpAnyIn Fence.wide n P .any ops Q fuel2 listed a w:=by
 simp only [a5Y,y6]at hc;obtain⟨hb,hpre,hpost,hgd,hjs⟩:=hc;have hjs:j<ops.size:=a1h.mp hjs|>fun h=>h
 have hget:∀i,i<j→(ops.extract 0 j)[i]?=ops[i]?:=fun i hi=>by
  rw [Array.getElem?_extract];simp;omega
 have hwt:∀i k,i<j→a5i (ops.extract 0 j) i k=a5i ops i k:=fun i k hi=>by unfold a5i;rw [hget i hi]
 have hsz':(ops.extract 0 j).size=j:=by simp;omega
 --when j is ready,all ahead of it are listed
 have hall:∀(listed:Array Bool),listed.size=ops.size→c2o ops listed→((∀k,a5i ops j k=true→listed[k]?=some true))→∀i,i<j→listed[i]?=some true:=by
  intro listed hsz hd hr i
  induction hr':j-i using Nat.strongRecOn generalizing i with
  |ind r ih=>
   intro hi;have hx:=L4.1 hpre i (a4y.2 hi);obtain⟨m,hm,hy⟩:=List.any_eq_true.1 hx;simp only [y6,a1h,a4y]at hy hm;by_cases e:m=j
   · subst e;exact hr i hy.2
   · exact hd m i (ih (j-m) (by omega) m rfl (by omega)) hy.2
 --none behind j is ready as long as j is not listed
 have hnot:∀(listed:Array Bool),listed.size=ops.size→(∀i,j≤i→i<ops.size→listed[i]?=some false)→∀i,i∈Region.ready .any ops listed→i≤j:=by
  intro listed hsz h2 i hi;obtain⟨g1,g2,g3⟩:=(a1M hsz).1 hi;apply Nat.le_of_not_lt;intro hlt;have hk:=L4.1 hpost i (a4y.2 g1);have hnb:Nat.ble i j=false:=by cases hx:Nat.ble i j with|false=>rfl|true=>have:=F7 hx;omega
  rw [hnb,Bool.false_or]at hk;have:=g3 _ hk;rw [h2 (i-1) (by omega) (by omega)]at this;cases this
 intro fuel
 induction fuel with
 |zero=>
  intro fuel2 ls listed a w hls hsz hsame hfalse hdown hf h;obtain⟨hnil,_,hk⟩:=h
  have hl:=a9X (ops:=ops.extract 0 j) (by
   refine L4.2 fun m hm=> ?_
   rw [a4y,hsz']at hm;rw [hget m hm];exact L4.1 hb m (a4y.2 (by omega))) (by omega) hnil
  have h1:∀i,i<j→listed[i]?=some true:=fun i hi=>by rw [hsame i hi];exact hl i (by omega)
  cases fuel2 with
  |zero=>omega
  |succ fuel2=>
   refine⟨fun hn=> ?_,fun i hi=> ?_⟩
   · have:=a9X hb hsz hn j hjs;rw [hfalse j (u0 _) hjs]at this;cases this
   · have hij:=hnot listed hsz hfalse i hi;obtain⟨g1,g2,g3⟩:=(a1M hsz).1 hi
     have hie:i=j:=by
      rcases Nat.lt_or_ge i j with h|h
      · rw [h1 i h]at g2;cases g2
      · omega
     subst hie;have h:=hK a w hk
     have hd:ops.toList.drop i=ops[i]::ops.toList.drop (i+1):=by
      rw [b3T (by simpa using hjs)];simp
     rw [hd]at h;simp only [wpListIn]at h;unfold wpOpIn;rw [a1l hjs];simp only
     have goOn:∀a w,wpListIn Fence.wide n P ops Q (ops.toList.drop (i+1)) a w→wpAnyIn Fence.wide n P .any ops Q fuel2 (listed.setIfInBounds i true) a w:=by
      intro a w h;refine b1u hb hpost (ops.size-(i+1)) (i+1) fuel2 _ a w (by omega) (by omega) (by simpa using hsz) (fun k hk=> ?_) (fun k hk hk2=> ?_) (by omega) h
      · by_cases e:i=k
        · subst e;simp [b6K,hsz,hjs]
        · rw [a1q e];exact h1 k (by omega)
      · rw [a1q (by omega)];exact hfalse k (by omega) hk2
     split at h
     · rename_i hw;rw [e9 hw];exact Oper.wpIn_mono goOn h
     · rename_i hw;rw [i6 hw];exact⟨h.1,goOn _ _ h.2⟩
 |succ fuel ih=>
  intro fuel2 ls listed a w hls hsz hsame hfalse hdown hf h;obtain⟨h0,h1⟩:=h;cases fuel2 with
  |zero=>omega
  |succ fuel2=>
   refine⟨fun hn=> ?_,fun i hi=> ?_⟩
   · have:=a9X hb hsz hn j hjs;rw [hfalse j (u0 _) hjs]at this;cases this
   · have hij:=hnot listed hsz hfalse i hi;obtain⟨g1,g2,g3⟩:=(a1M hsz).1 hi;rcases Nat.lt_or_ge i j with hlt|hge
     · --ahead of j
       have hi':i∈Region.ready .any (ops.extract 0 j) ls:=(a1M (by omega)).2 ⟨by omega,by rw [←hsame i hlt];exact g2,fun k hk=>by
        rw [hwt i k hlt]at hk;have hkl:=(b5A hb hk).1;rw [←hsame k (by omega)];exact g3 k hk⟩
       have hop:=h1 i hi';unfold wpOpIn at hop⊢;rw [hget i hlt,a1l g1]at hop;rw [a1l g1];simp only at hop⊢
       have hyl:Region.wanted ops[i] (yielded (ops.extract 0 j) a.tmps)=Region.wanted ops[i] (yielded ops a.tmps):=by
        have hx:=L4.1 hgd i (a4y.2 hlt);rw [a1l g1]at hx;simp only at hx;unfold Region.wanted;cases hg:ops[i].guard with
        |none=>rfl
        |some p=>
         obtain⟨g,b⟩:=p;rw [hg]at hx;simp only [a1h]at hx;simp only [yielded,hget g hx]
       rw [hyl]at hop
       have goOn:∀a w,wpAnyIn Fence.wide n P .any (ops.extract 0 j) (fun e a w=>e= .normal∧K a w) fuel (ls.setIfInBounds i true) a w→wpAnyIn Fence.wide n P .any ops Q fuel2 (listed.setIfInBounds i true) a w:=by
        intro a w h;refine ih fuel2 _ _ a w (by simpa using hls) (by simpa using hsz) (fun k hk=> ?_) (fun k hk hk2=> ?_) (hdown.set hsz hi) (by omega) h
        · by_cases e:i=k
          · subst e;simp [b6K,hsz,g1,hls,hlt]
          · rw [a1q e,a1q e];exact hsame k hk
        · rw [a1q (by omega)];exact hfalse k hk hk2
       split at hop
       · rename_i hw;rw [e9 hw];have h2:=Oper.wpIn_mono goOn hop;unfold Oper.wpIn at h2⊢;refine⟨h2.1, ?_⟩;have h3:=h2.2;generalize (ops[i].semAt Fence.wide.round a.eval).run P w=r at*;cases r with
         |ok x w'=>
          cases x with
          |value v=>exact h3
          |skip=>exact h3
          |defer d=>exact h3
          |enter f args=>
           refine⟨h3.1,h3.2.mono fun e w'' he=> ?_⟩;cases e with
           |returned v=>exact he
           |panicked c=>obtain⟨he,_⟩:=he;cases he
           |outgrown=>obtain⟨a,w,he,_⟩:=he;cases he
          |row row args=>exact h3
          |round l f tmps assign body=>
           refine⟨h3.1,h3.2.mono fun e w'' he=> ?_⟩;cases e with
           |returned v=>exact he
           |panicked c=>obtain⟨he,_⟩:=he;cases he
           |outgrown=>obtain⟨a,w,he,_⟩:=he;cases he
          |_=>exact h3.elim
         |halt hl w'=>
          cases hl with
          |panic v=>obtain⟨he,_⟩:=h3;cases he
          |_=>exact h3.elim
       · rename_i hw;rw [i6 hw];exact⟨hop.1,goOn _ _ hop.2⟩
     · --j itself:all ahead of it are listed
       obtain rfl:i=j:=by omega
       have hl:=hall listed hsz hdown g3
       have hnil:Region.ready .any (ops.extract 0 i) ls= []:=List.eq_nil_iff_forall_not_mem.2 fun k hk=>by
        obtain⟨k1,k2,_⟩:=(a1M (by omega)).1 hk;rw [←hsame k (by omega),hl k (by omega)]at k2;cases k2
       obtain⟨_,hk⟩:=h0 hnil;have h:=hK a w hk
       have hd:ops.toList.drop i=ops[i]::ops.toList.drop (i+1):=by
        rw [b3T (by simpa using hjs)];simp
       rw [hd]at h;simp only [wpListIn]at h;unfold wpOpIn;rw [a1l hjs];simp only
       have goOn:∀a w,wpListIn Fence.wide n P ops Q (ops.toList.drop (i+1)) a w→wpAnyIn Fence.wide n P .any ops Q fuel2 (listed.setIfInBounds i true) a w:=by
        intro a w h;refine b1u hb hpost (ops.size-(i+1)) (i+1) fuel2 _ a w (by omega) (by omega) (by simpa using hsz) (fun k hk=> ?_) (fun k hk hk2=> ?_) (by omega) h
        · by_cases e:i=k
          · subst e;simp [b6K,hsz,hjs]
          · rw [a1q e];exact hl k (by omega)
        · rw [a1q (by omega)];exact hfalse k (by omega) hk2
       split at h
       · rename_i hw;rw [e9 hw];exact Oper.wpIn_mono goOn h
       · rename_i hw;rw [i6 hw];exact⟨h.1,goOn _ _ h.2⟩
end
def b2x:List (Nat×D)→List (Nat×D)
 | []=> []
 |(d,x)::T=>(d,match Q5 x,Nat.blt d 1000000 with|true,true=>x|_,_=> .bad)::b2x T
def b7E:List (Nat×D)→List (Nat×D)
 | []=> []
 |(d,x)::T=>(d,match x,Nat.blt d 1000000 with| .v y,true=> .v y|_,_=> .bad)::b7E T
def a4g (st:Sy) (o:Oper):Option (List Operand):=match o.op with
 | .call c=>match c.callee with
  | .value f=>match evY st f with
   |some (.v (.func (.yield _) _ _))=>some c.args.toList
   |_=>none
  |_=>none
 |_=>none
def b0r (st:Sy) (o:Oper):Option D:=match o.op with
 | .call c=>match c.callee with
  | .value f=>evY st f
  |_=>none
 |_=>none
abbrev Pre:=Option (List (List D))
structure a8N (X:Cy) (l:Nat) (xs:List (List D)) (st:Sy) (o:Oper) (args:List Operand) (p:Pre) (K:Sy→Pre→Prop):Prop where
 ex:∃pre x x',b0r st o=some (.v (.func (.yield l) #[] #[]))∧p=some pre∧a6N st args=some x∧a1b st (.tup x) (fun y=>y= .tup x')∧pre++ [x']<+:xs∧
  F8 X ⟨b2x st.T, [],st.nk⟩ o.dst (.v (.bool true)) (fun st=>K st (some (pre++ [x'])))∧F8 X ⟨b7E st.T, [],st.nk⟩ o.dst (.v (.bool false)) fun st=>K st none
structure a2X (X:Cy) (l:Nat) (xs:List (List D)) (st:Sy) (o:Oper) (args:List Operand) (p:Pre) (K:Sy→Pre→Prop):Prop where
 ex:∃ks st0,a2F ks st []=some (st0, [])∧a8N X l xs st0 o args p K
def c4J (X:Cy) (ops:List Oper) (o:Oper) (st:Sy) (K:Sy→Prop):Prop:=
 a0D ops o.guard st (fun st=>a9d X st o K) (fun st=>F8 X st o.dst .und K)
theorem c4a (X:Cy) (ops:List Oper) (o:Oper) (st:Sy) (K:Sy→Prop):c4J X ops o st K=b5b X ops [o] st K:=rfl
def b5x (X:Cy) (l:Nat) (xs:List (List D)) (ops:List Oper):List Oper→Sy→Pre→(Sy→Pre→Prop)→Prop
 | [],st,p,K=>K st p
 |o::rest,st,p,K=>match a4g st o with
  |some args=>a0D ops o.guard st (fun st=>a2X X l xs st o args p fun st p=>b5x X l xs ops rest st p K) (fun st=>F8 X st o.dst .und fun st=>b5x X l xs ops rest st p K)
  |none=>c4J X ops o st fun st=>b5x X l xs ops rest st p K
def c4Y:List (Nat×Nat)→Nat→Option Nat
 | [],_=>none
 |(i,j)::l,k=>match Nat.beq i k with|true=>some j|false=>c4Y l k
structure a8T (body:Sy→Pre→(Exit→Sy→Pre→Prop)→Prop) (st:Sy) (p:Pre) (K:Exit→Sy→Pre→Prop):Prop where
 ex:∃(α:Type) (f:α→Sy) (pf:α→List (List D)) (inv:α→Prop) (μ:α→Nat),(∃x0,F6 st (f x0)∧p=some (pf x0)∧inv x0)∧∀x,inv x→body (f x) (some (pf x)) fun e st2 p2=>match e with
  | .normal=>∃y,F6 st2 (f y)∧p2=some (pf y)∧inv y∧μ y<μ x
  |e=>K e st2 p2
def a3t (X:Cy) (l:Nat) (xs:List (List D)) (yl:List (Nat×Nat)):Code→Sy→Pre→(Exit→Sy→Pre→Prop)→Prop
 | .skip,st,p,K=>K .normal st p
 | .region id ops draw,st,p,K=>match draw with
  |false=>b5x X l xs ops.toList ops.toList st p (K .normal)
  |true=>match b7R X.pl id with
   |some pl=>match c4Y yl id with
    |some j=>a5Y ops j=true∧a4R X.tt X.nt (ops.toList.take j).toArray pl=true∧(match st with|⟨T,H,nk⟩=>a4o X (ops.toList.take j) pl ⟨a7H (ops.toList.take j) T,H,nk⟩ [] fun st=>b5x X l xs ops.toList (ops.toList.drop j) st p (K .normal))
    |none=>I9 X (.region id ops true) st fun e st=>K e st p
   |none=>False
 | .seq a b,st,p,K=>a3t X l xs yl a st p fun e st' p'=>match e with
  | .normal=>a3t X l xs yl b st' p' K
  |e=>K e st' p'
 | .cond c t e,st,p,K=>match evY st c with
  |some (.v (.bool b))=>VIf b (a3t X l xs yl t st p K) (a3t X l xs yl e st p K)
  |_=>False
 | .block id c,st,p,K=>a3t X l xs yl c st p fun e st' p'=>match e with
  | .exit j=>match Nat.beq j id with
   |true=>K .normal st' p'
   |false=>K (.exit j) st' p'
  |e=>K e st' p'
 | .loop c,st,p,K=>a8T (a3t X l xs yl c) st p K
 | .exit id,st,p,K=>K (.exit id) st p
 | .ret,st,p,K=>K .ret st p
 | .scope c,st,p,K=>a3t X l xs yl c st p K
 | .label _,st,p,K=>K .normal st p
 |_,_,_,_=>False
theorem b3C {d:Nat} {x:D}:∀ {T:List (Nat×D)},o4 (b2x T) d=some x→x= .bad∨(o4 T d=some x∧Q5 x=true∧d<E7)
 | [],h=>by cases h
 |(e,y)::T,h=>by
  simp only [b2x,o4]at h⊢;split at h
  · rename_i hb;simp only [M9]at h;cases hc:Q5 y with
    |true=>
     cases hd:Nat.blt e 1000000 with
     |true=>rw [hc,hd]at h;subst h;exact .inr ⟨rfl,hc,by rw [←r6 hb];simpa [a1h]using hd⟩
     |false=>rw [hc,hd]at h;exact .inl h.symm
    |false=>rw [hc]at h;exact .inl h.symm
  · rename_i hb;exact b3C h
theorem b4m {d:Nat} {x:D}:∀ {T:List (Nat×D)},o4 (b7E T) d=some x→x= .bad∨(o4 (b2x T) d=some x∧∃y,x= .v y)
 | [],h=>by cases h
 |(e,y)::T,h=>by
  simp only [b7E,b2x,o4]at h⊢;split at h
  · rename_i hb;simp only [M9]at h;split at h
    · rename_i v hd;subst h;exact .inr ⟨by simp [Q5,hd],_,rfl⟩
    · exact .inl h.symm
  · exact b4m h
def b4w (t:Array Value) (d:Nat):SV:=match t[d]? with|some y=> .v y|none=> .bad
def b5m (t:Array Value):List (Nat×D)→List (Nat×SV)
 | []=> []
 |(d,_)::T=>(d,b4w t d)::b5m t T
theorem b3G {t:Array Value} {d:Nat} {s:SV}:∀ {T:List (Nat×D)},u1 (b5m t T) d=some s→s=b4w t d
 | [],h=>by cases h
 |(e,y)::T,h=>by
  simp only [b5m,u1]at h;split at h
  · rename_i hb;obtain rfl:=r6 hb;exact(D6 h).symm
  · exact b3G h
theorem b9i {t:Array Value} {d:Nat} {x:D}:∀ {T:List (Nat×D)},o4 T d=some x→u1 (b5m t T) d=some (b4w t d)
 | [],h=>by cases h
 |(e,y)::T,h=>by
  simp only [o4]at h;simp only [b5m,u1];split at h
  · rename_i hb;obtain rfl:=r6 hb;simp
  · rename_i hb;rw [hb];exact b9i h
section
variable {X : Cy} {xs : List (List D)} {ok0 : Nat → Prop} {W0 : World} {l n : Nat} {J : List (List D) → (Nat → Prop) → World → Prop} {Jx : List (List D) → World → Prop}
def c8O (xs:List (List D)) (W0:World) (J:List (List D)→(Nat→Prop)→World→Prop) (Jx:List (List D)→World→Prop) (ok:Nat→Prop) (w0:World):Pre→Prop
 |some pre=>W0.heap.size≤w0.heap.size∧∃O:Nat→Prop,(∀b,O b→b<w0.heap.size∧¬ok b)∧J pre O w0
 |none=>∃pre,pre<+:xs∧Jx pre w0
def Seg (X:Cy) (xs:List (List D)) (ok0:Nat→Prop) (W0:World) (J:List (List D)→(Nat→Prop)→World→Prop) (Jx:List (List D)→World→Prop) (p:Pre) (sy:Sy) (a:Act) (w:World):Prop:=
 ∃(ok:Nat→Prop) (w0:World) (st:St),(∀b,ok b→b<w0.heap.size∧(ok0 b∨W0.heap.size≤b))∧Sim (fun b=>w0.heap.size≤b∨ok b) st sy∧Rel (cx X w0 []) st a w∧GIW X.P w0∧c8O xs W0 J Jx ok w0 p
theorem b3S {P:Program} {ok:Nat→Prop} {w0:World} (hg:GIW P w0):AG (fun b=>w0.heap.size≤b∨ok b) P w0 []:=⟨fun b h=>(by
 rcases h with h|h
 · exact .inl h
 · cases h),hg,fun b h=>by cases h⟩
theorem c3j (hP:POK X.P X.tt) {c:Code} {sy:Sy} {p:Pre} {a:Act} {w:World} {K:Exit→Sy→Prop} {Q:Exit→Act→World→Prop} (h:I9 X c sy K) (hs:Seg X xs ok0 W0 J Jx p sy a w)
 (hQ:∀e sy' a' w',plain e→K e sy'→Seg X xs ok0 W0 J Jx p sy' a' w'→Q e a' w'):c.wp X.P Q a w:=by
 obtain⟨ok,w0,st,h1,h3,h4,hgi,h5⟩:=hs;exact a2s (b3S hgi) hP c st sy a w K Q h h3 h4 fun e st' sy' a' w' hp hk hs' hl=>hQ e sy' a' w' hp hk ⟨ok,w0,st',h1,hs',hl.rel,hgi,h5⟩
theorem b9N {P:Program} {o:Oper} {a:Act} {w:World} {K:Act→World→Prop} {Q Q':Exit→Act→World→Prop} (h:o.wp P a w K Q') (hno:¬LetsOut Q') (hpn:∀c a w,¬Q' (.panic c) a w):o.wpIn Fence.wide n P a w K Q:=by
 unfold Oper.wp at h;unfold Oper.wpIn;refine⟨fun _ _=>trivial, ?_⟩;rw [Fence.wide_round,Oper.semAt_none];generalize (execOp a.eval o).run P w=r at*;cases r with
 |ok x w'=>
  cases x with
  |value v=>exact h
  |skip=>exact h
  |defer d=>exact h
  |enter f args=>
   refine⟨fun h=>by simp [Fence.wide]at h,(callsIn_wide.2 h).mono fun e w'' he=> ?_⟩;cases e with
   |returned v=>exact he
   |panicked c=>exact absurd he (hpn _ _ _)
   |outgrown=>exact absurd he hno
  |row row args=>
   refine⟨fun h=>by simp [Fence.wide]at h,fun c cs _=> ?_⟩;obtain⟨v,w',r,s⟩:=h c cs;exact⟨v,w',r,stepsIn_wide.2 s⟩
  |_=>exact h.elim
 |halt hl w'=>
  cases hl with
  |panic v=>exact absurd h (hpn _ _ _)
  |_=>exact h.elim
theorem a7k {P:Program} {md:Region.Mode} {ops:Array Oper} {K:Act→World→Prop}:∀(fuel:Nat) (listed:Array Bool) (a:Act) (w:World),wpAny P md ops (fun e a w=>e=Exit.normal∧K a w) fuel listed a w→wpAnyIn Fence.wide n P md ops (fun e a w=>e=Exit.normal∧K a w) fuel listed a w
 |0,listed,a,w,h=>h
 |fuel+1,listed,a,w,h=>by
  refine⟨h.1,fun i hi=> ?_⟩;have h2:=h.2 i hi;unfold wpOp at h2;unfold wpOpIn;cases ho:ops[i]? with
  |none=>rw [ho]at h2;exact a7k fuel _ a w h2
  |some o=>
   rw [ho]at h2;simp only at h2⊢;have hno:¬LetsOut (fun e a w=>e=Exit.normal∧K a w):=by rintro⟨a,w,h,_⟩;cases h
   split at h2
   · rename_i hw;rw [e9 hw];rcases h2 with h2|⟨_,h2⟩
     · exact b9N (Oper.wp_mono (fun a w h=>a7k fuel _ a w h) h2) hno (by rintro c a w ⟨h,_⟩;cases h)
     · exact absurd h2 hno
   · rename_i hw;rw [i6 hw];exact⟨fun _ _=>trivial,a7k fuel _ _ _ h2⟩
theorem a8S {w0 w:World} (h:Fx [] w0 w):w0.grownBy w none:=⟨h.os,h.tape,h.output,h.size,fun k hk _=>h.block k hk (by simp)⟩
theorem a8w {ok:Nat→Prop} {w:World} {a:Act} {T:List (Nat×D)} {nk:Nat} (hsz:a.tmps.size=X.nt∧X.nt≤E7) (hd:a.defers=X.dfs) (hok:∀b,ok b→b<w.heap.size) (hT:∀d x,o4 T d=some x→x= .bad∨∃y,a.tmps[d]?=some y∧Rep ok w x y):
 Sim (fun b=>w.heap.size≤b∨ok b) ⟨b5m a.tmps T, [],nk,w,w.heap.size, []⟩ ⟨T, [],nk⟩∧Rel (cx X w []) ⟨b5m a.tmps T, [],nk,w,w.heap.size, []⟩ a w:=by
 constructor
 · refine⟨fun d x hx=> ?_,fun k e he=>by simp [j7]at he,rfl,fun j _=> ?_,fun _ _=>rfl⟩
   · rcases hT d x hx with h|⟨y,h1,h2⟩
     · exact .inl h
     · right;refine⟨_,b9i hx, ?_⟩;have:b4w a.tmps d= .v y:=by simp [b4w,h1]
       rw [this];exact Rep.rel _ _ (Rep.mono (fun b hb=>⟨⟨⟨.inl (hok b hb), .inr hb⟩,hok b hb,fun c hc=>by simp [bs]at hc⟩,rfl⟩) _ _ h2)
   · have:∀T:List (Nat×D),o7 j (b5m a.tmps T)=true:=by
      intro T
      induction T with
      |nil=>rfl
      |cons p T ih=>
       obtain⟨e,y⟩:=p;simp only [b5m,o7];have:ment j (b4w a.tmps e)=false:=by unfold b4w;cases a.tmps[e]?<;>rfl
       rw [this];exact ih
     exact this T
 · refine⟨hsz,fun d s hs=> ?_,hd,Cls.nil (cx X w []) nk,u0 _,by simp⟩;have:=b3G hs;subst this;cases h:a.tmps[d]? with
   |none=>left;simp [b4w,h]
   |some y=>
    have hlt:=(O1.1 h).1;right;rw [G9,e9 (E3 hlt (hsz.1▸hsz.2))];simp [b4w,h,den]
def b0o (X:Cy) (xs:List (List D)) (ok0:Nat→Prop) (W0:World) (l n:Nat) (J:List (List D)→(Nat→Prop)→World→Prop) (Jx:List (List D)→World→Prop):Prop:=
 ∀pre x vals O W1,J pre O W1→(∀b,O b→b<W1.heap.size)→pre++ [x]<+:xs→j1 (fun b=>(ok0 b∨W0.heap.size≤b)∧b<W1.heap.size∧¬O b) W1 x vals→
  YieldAt Fence.wide n X.P l vals.toArray W1 fun e W'=>
   GIW X.P W'∧((e= .returned (.bool true)∧∃O',J (pre++ [x]) O' W'∧W1.heap.size≤W'.heap.size∧(∀b,O' b→b<W'.heap.size∧(O b∨W1.heap.size≤b))∧∀b,b<W1.heap.size→¬O b→W'.heap[b]?=W1.heap[b]?)∨
   (e= .returned (.bool false)∧Jx (pre++ [x]) W'))
theorem a6T {st:Sy} {o:Oper} {args:List Operand} (h:a4g st o=some args):∃c f,o.op= .call c∧c.callee= .value f∧c.args.toList=args:=by
 unfold a4g at h;split at h
 · rename_i c hc;split at h
   · rename_i f hf;split at h
     · exact⟨c,f,hc,hf,D6 h⟩
     · cases h
   · cases h
 · cases h
theorem b9Y (hP:POK X.P X.tt) (hJ:∀pre O A B,J pre O A→A.grownBy B none→J pre O B) (hY:b0o X xs ok0 W0 l n J Jx) {o:Oper} {args:List Operand} {sy:Sy} {p:Pre} {a:Act} {w:World} {K:Sy→Pre→Prop} {K':Act→World→Prop} {Q:Exit→Act→World→Prop}
 (hop:a4g sy o=some args∨∃c f,o.op= .call c∧c.callee= .value f∧c.args.toList=args) (h:a8N X l xs sy o args p K) (hs:Seg X xs ok0 W0 J Jx p sy a w) (hK:∀sy' p' a' w',K sy' p'→Seg X xs ok0 W0 J Jx p' sy' a' w'→K' a' w'):o.wpIn Fence.wide (n+1) X.P a w K' Q:=by
 obtain⟨pre,x,x',hcal,rfl,hx,hret,hpre,ht,hf⟩:=h.ex;obtain⟨ok,w0,st,hok,hsim,hrel,hgi,hsz,O,hO,hJ0⟩:=hs
 obtain⟨c,f,hopc,hcf,hca⟩:∃c f,o.op= .call c∧c.callee= .value f∧c.args.toList=args:=by
  rcases hop with h|h
  · exact a6T h
  · exact h
 simp only [b0r,hopc,hcf]at hcal;obtain⟨sf,e1,e2,_⟩:=j9 hsim hcal
 have hfv:a.eval f= .func (.yield l) #[] #[]:=by
  have:=e2.sc;subst this;simpa [den]using (hrel.ev f _ e1).2
 obtain⟨sx,e3,e4⟩:=M8 hsim hx;have hargs:=(a3r hrel.ev e3).1;have hfx0:=hrel.cls.fx0;have hg:=a8S (show Fx [] w0 w from hfx0);have hJ1:=hJ pre O w0 w hJ0 hg
 --what is handed on
 obtain⟨r',hr',hrep⟩:=b1o (b3S (ok:=ok) (w0:=w0) hgi) hret hsim hrel (show d8 (okS _ st) st.w (u6 st) (.tup x) (.tup sx) from by simp only [d8];exact .inl ⟨sx,rfl,e4⟩);subst hr';simp only [Rep]at hrep;obtain⟨av,hav,hrepl⟩:=hrep;have hval:av=(l4 st.H sx).toArray:=by simpa [den]using hav.symm
 have hO1:∀b,O b→b<w.heap.size:=fun b hb=>E3 (hO b hb).1 hfx0.size
 have hnO:∀b,(w0.heap.size≤b∨ok b)→¬O b:=fun b hb hOb=>by
  rcases hb with h|h
  · have:=(hO b hOb).1;omega
  · exact(hO b hOb).2 h
 obtain⟨fn,tm,asn,body,hrun,hround⟩:=hY pre x' av.toList O w hJ1 hO1 hpre (j1.mono (fun b hb=>⟨⟨by
  rcases hb.1 with h|h
  · exact .inr (r7 hsz h)
  · exact(hok b h).2,hb.2,hnO b hb.1⟩,rfl⟩) _ _ hrepl)
 unfold Oper.wpIn;refine⟨fun _ _=>trivial, ?_⟩;rw [Fence.wide_round,Oper.semAt_none]
 have harr:c.args.map a.eval=av:=by
  rw [hval];apply F9;rw [←hargs,←hca];simp
 have hexec:(execOp a.eval o).run X.P w= .ok (.round l fn tm asn body) w:=by
  simp only [execOp,hopc,resolve,hcf,Sem.run_bind,hfv,Deferred.ofValue,Sem.run_pure,Result.andThen_ok,invoke,harr];simpa using hrun
 rw [hexec];refine⟨fun h=>by simp [Fence.wide]at h,hround.mono fun e w' he=> ?_⟩
 --the state behind the round
 have hkeep:∀d y,o4 (b2x sy.T) d=some y→y= .bad∨∃v,a.tmps[d]?=some v∧Rep (fun b=>(w0.heap.size≤b∨ok b)∧b<w.heap.size) w y v:=by
  intro d y hd;rcases b3C hd with h|⟨h,hc,hlt⟩
  · exact .inl h
  · rcases hsim.T d y h with h|⟨s,g1,g2⟩
    · exact .inl h
    · rcases hrel.T d s g1 with g|g
      · subst g;left;cases y<;>simp_all [d8,Q5,a1S]
      · right;rw [G9,e9 hlt]at g;refine⟨_,g, ?_⟩;have:=a1U (H:=st.H) _ _ g2 hc;exact Rep.mono (fun b hb=>⟨⟨hb.1.2,E3 hb.2.1 hrel.cls.fx.size⟩,hrel.cls.fx.block b hb.2.1 hb.2.2⟩) _ _ this
 have hnk:sy.nk=st.nk:=hsim.nk;obtain⟨hgi',he⟩:=he;rcases he with⟨rfl,O',hJ',hle,hO',hblk⟩|⟨rfl,hJ'⟩
 · obtain⟨g1,g2⟩:=a8w (X:=X) (ok:=fun b=>(w0.heap.size≤b∨ok b)∧b<w.heap.size) (w:=w') (a:=a) (T:=b2x sy.T) (nk:=sy.nk) hrel.size hrel.dfs (fun b hb=>E3 hb.2 hle) fun d y hd=>by
    rcases hkeep d y hd with h|⟨v,h1,h2⟩
    · exact .inl h
    · exact .inr ⟨v,h1,Rep.mono (fun b hb=>⟨hb,hblk b hb.2 (hnO b hb.1)⟩) _ _ h2⟩
   have hput:=y4 (w0:=w') (bor:= []) (s:= .v (.bool true)) ht g1 (by simp only [d8];exact⟨trivial,rfl⟩);obtain⟨st1,⟨sy1,k1,k2⟩,k3,_⟩:=R4 g2 hput (v:= .bool true) (.inr (by simp [den]));refine hK sy1 _ _ _ k1 ⟨_,w',st1,fun b hb=>⟨E3 hb.2 hle, ?_⟩,k2,k3,hgi',r7 hsz (r7 hfx0.size hle),O',fun b hb=>⟨(hO' b hb).1,fun hx=> ?_⟩,hJ'⟩
   · rcases hb.1 with h|h
     · exact .inr (r7 hsz h)
     · exact(hok b h).2
   · rcases(hO' b hb).2 with h|h
     · exact hnO b hx.1 h
     · have:=hx.2;omega
 · obtain⟨g1,g2⟩:=a8w (X:=X) (ok:=fun _=>False) (w:=w') (a:=a) (T:=b7E sy.T) (nk:=sy.nk) hrel.size hrel.dfs (fun b hb=>hb.elim) fun d y hd=>by
    rcases b4m hd with h|⟨h,x,rfl⟩
    · exact .inl h
    · rcases hkeep d _ h with h|⟨v,h1,h2⟩
      · exact .inl h
      · exact .inr ⟨v,h1,by simp only [Rep]at h2⊢;exact h2⟩
   have hput:=y4 (w0:=w') (bor:= []) (s:= .v (.bool false)) hf g1 (by simp only [d8];exact⟨trivial,rfl⟩);obtain⟨st1,⟨sy1,k1,k2⟩,k3,_⟩:=R4 g2 hput (v:= .bool false) (.inr (by simp [den]));exact hK sy1 _ _ _ k1 ⟨_,w',st1,fun b hb=>hb.elim,k2,k3,hgi',_,hpre,hJ'⟩
theorem c1x (hP:POK X.P X.tt) (hJ:∀pre O A B,J pre O A→A.grownBy B none→J pre O B) (hY:b0o X xs ok0 W0 l n J Jx) {o:Oper} {args:List Operand} {sy:Sy} {p:Pre} {a:Act} {w:World} {K:Sy→Pre→Prop} {K':Act→World→Prop} {Q:Exit→Act→World→Prop}
 (hop:a4g sy o=some args∨∃c f,o.op= .call c∧c.callee= .value f∧c.args.toList=args) (h:a2X X l xs sy o args p K) (hs:Seg X xs ok0 W0 J Jx p sy a w) (hK:∀sy' p' a' w',K sy' p'→Seg X xs ok0 W0 J Jx p' sy' a' w'→K' a' w'):o.wpIn Fence.wide (n+1) X.P a w K' Q:=by
 obtain⟨ks,sy0,hfz,hz⟩:=h.ex;obtain⟨ok,w0,st,hok,hsim,hrel,hgi,hJ0⟩:=hs;obtain⟨st,hsim,hrel,_⟩:=b5q (b3S (ok:=ok) (w0:=w0) hgi) hfz hsim hrel;refine b9Y hP hJ hY (sy:=sy0) (.inr ?_) hz ⟨ok,w0,st,hok,hsim,hrel,hgi,hJ0⟩ hK;rcases hop with h|h
 · exact a6T h
 · exact h
end
section
variable {X : Cy} {xs : List (List D)} {ok0 : Nat → Prop} {W0 : World} {l n : Nat} {J : List (List D) → (Nat → Prop) → World → Prop} {Jx : List (List D) → World → Prop}
theorem c0H {ops:List Oper} {o:Oper} {opsA:Array Oper} (hops:opsA.toList=ops) {sy:Sy} {p:Pre} {a:Act} {w:World} {yes no:Sy→Prop} (h:a0D ops o.guard sy yes no) (hs:Seg X xs ok0 W0 J Jx p sy a w):
 ∃sy',Seg X xs ok0 W0 J Jx p sy' a w∧((Region.wanted o (yielded opsA a.tmps)=true∧yes sy')∨(Region.wanted o (yielded opsA a.tmps)=false∧no sy')):=by
 obtain⟨ok,w0,st,h1,h3,h4,h5⟩:=hs;subst hops;have hg:=a8F (yes:=fun st'=>∃sy',Sim (fun b=>w0.heap.size≤b∨ok b) st' sy'∧yes sy') (no:=fun st'=>∃sy',Sim (fun b=>w0.heap.size≤b∨ok b) st' sy'∧no sy') h h3 (fun st' sy' h1 h2=>⟨sy',h1,h2⟩) (fun st' sy' h1 h2=>⟨sy',h1,h2⟩);obtain⟨st1,hsm,_,hr1,hg⟩:=b1h (X:=cx X w0 []) hg h4;rcases hg with⟨hw,sy1,hs1,hy⟩|⟨hw,sy1,hs1,hn⟩
 · exact⟨sy1,⟨ok,w0,st1,h1,hs1,hr1,h5⟩, .inl ⟨hw,hy⟩⟩
 · exact⟨sy1,⟨ok,w0,st1,h1,hs1,hr1,h5⟩, .inr ⟨hw,hn⟩⟩
theorem c3V {sy:Sy} {p:Pre} {a:Act} {w:World} {dst:Option Nat} {K:Sy→Prop} (h:F8 X sy dst .und K) (hs:Seg X xs ok0 W0 J Jx p sy a w):∃sy',K sy'∧Seg X xs ok0 W0 J Jx p sy' (a.put dst undef) w:=by
 obtain⟨ok,w0,st,h1,h3,h4,h5⟩:=hs;obtain⟨st2,⟨sy2,hK2,hs2⟩,hr2,hH2⟩:=R4 h4 (y4 (w0:=w0) (bor:= []) (s:= .v undef) h h3 (by simp only [d8])) (v:=undef) (.inr rfl);exact⟨sy2,hK2,ok,w0,st2,h1,hs2,hr2,h5⟩
theorem a7D (hP:POK X.P X.tt) (hJ:∀pre O A B,J pre O A→A.grownBy B none→J pre O B) (hY:b0o X xs ok0 W0 l n J Jx) {ops:Array Oper} {Q:Exit→Act→World→Prop}:∀(rest:List Oper) (sy:Sy) (p:Pre) (a:Act) (w:World) (K:Sy→Pre→Prop),
 b5x X l xs ops.toList rest sy p K→Seg X xs ok0 W0 J Jx p sy a w→(∀sy' p' a' w',K sy' p'→Seg X xs ok0 W0 J Jx p' sy' a' w'→Q .normal a' w')→wpListIn Fence.wide (n+1) X.P ops Q rest a w
 | [],sy,p,a,w,K,h,hs,hQ=>hQ sy p a w h hs
 |o::rest,sy,p,a,w,K,h,hs,hQ=>by
  simp only [b5x]at h;split at h
  · rename_i args hy;obtain⟨c,f,hopc,hcf,hca⟩:=a6T hy;obtain⟨sy1,hs1,hg⟩:=c0H (opsA:=ops) rfl h hs;rcases hg with⟨hw,hyes⟩|⟨hw,hno⟩
    · simp only [wpListIn,hw,C6];exact c1x hP hJ hY (.inr ⟨c,f,hopc,hcf,hca⟩) hyes hs1 fun sy' p' a' w' hk hs'=>a7D hP hJ hY rest sy' p' a' w' K hk hs' hQ
    · simp only [wpListIn,hw];obtain⟨sy2,hk,hs2⟩:=c3V hno hs1;exact⟨fun _ _=>trivial,a7D hP hJ hY rest sy2 p _ w K hk hs2 hQ⟩
  · rw [c4a]at h;obtain⟨ok,w0,st,h1,h3,h4,h5⟩:=hs
    have hno:¬LetsOut fun e a w=>e=Exit.normal∧wpListIn Fence.wide (n+1) X.P ops Q rest a w:=by
     rintro⟨a,w,h,_⟩;cases h
    have h:=a7Z (ops:=ops) (Q:=fun e a w=>e=Exit.normal∧wpListIn Fence.wide (n+1) X.P ops Q rest a w) (b3S h5.1) hP [o] st sy a w _ h h3 h4 fun st' sy' a' w' hk hs' hl=>
     ⟨rfl,a7D hP hJ hY rest sy' p a' w' K hk ⟨ok,w0,st',h1,hs',hl.rel,h5⟩ hQ⟩
    simp only [wpList]at h;simp only [wpListIn];split at h
    · rename_i hw;rw [e9 hw];rcases h with h|⟨_,h⟩
      · exact b9N (Oper.wp_mono (fun _ _ h=>h.2) h) hno (by rintro c a w ⟨h,_⟩;cases h)
      · exact absurd h hno
    · rename_i hw;rw [i6 hw];exact⟨fun _ _=>trivial,h.2⟩
theorem c2S (hP:POK X.P X.tt) (hJ:∀pre O A B,J pre O A→A.grownBy B none→J pre O B) (hY:b0o X xs ok0 W0 l n J Jx) {yl:List (Nat×Nat)} (c:Code):∀(sy:Sy) (p:Pre) (a:Act) (w:World) (K:Exit→Sy→Pre→Prop) (Q:Exit→Act→World→Prop),
 a3t X l xs yl c sy p K→Seg X xs ok0 W0 J Jx p sy a w→(∀e sy' p' a' w',plain e→K e sy' p'→Seg X xs ok0 W0 J Jx p' sy' a' w'→Q e a' w')→c.wp X.P Q a w:=by
 induction c with
 |skip=>exact fun sy p a w K Q h hs hQ=>wp_skip (hQ .normal sy p a w trivial h hs)
 |label l=>exact fun sy p a w K Q h hs hQ=>wp_label (hQ .normal sy p a w trivial h hs)
 |exit id=>exact fun sy p a w K Q h hs hQ=>wp_exit (hQ (.exit id) sy p a w trivial h hs)
 |ret=>exact fun sy p a w K Q h hs hQ=>wp_ret (hQ .ret sy p a w trivial h hs)
 |region id ops draw=>
  intro sy p a w K Q h hs hQ;cases draw with
  |false=>exact(wpIn_wide (n:=n+1)).1 (wpIn_region_list (a7D hP hJ hY ops.toList sy p a w _ h hs fun sy' p' a' w' hk hs'=>hQ .normal sy' p' a' w' trivial hk hs'))
  |true=>
   simp only [a3t]at h;split at h
   · split at h
     · rename_i pl _ j _;obtain⟨hch,hpl,h⟩:=h;obtain⟨ok,w0,st,h1,hsim,hrel,h5⟩:=hs;obtain⟨T,H,nk⟩:=sy;obtain⟨T',H',nk',ws,lo,iv⟩:=st;have hex:ops.extract 0 j=(ops.toList.take j).toArray:=by apply F9;simp
       have htk:(ops.extract 0 j).toList=ops.toList.take j:=by simp
       rw [←hex]at hpl;simp only [←htk]at h;have hx:=X9 (w0:=w0) (bor:= []) (b3S (ok:=ok) (w0:=w0) h5.1) hP _ h (b1W (ops:=(ops.extract 0 j).toList) hsim)
       have hjs:j≤ops.size:=by
        simp only [a5Y,y6]at hch;exact a2P (a1h.mp hch.2.2.2.2)
       have hany:=a1C (X:=cx X w0 []) (Q:=fun e a w=>e=Exit.normal∧wpListIn Fence.wide (n+1) X.P ops Q (ops.toList.drop j) a w) hP hrel hpl hx fun st' a' w' ⟨sy',hk,hs'⟩ hl=>
        ⟨rfl,a7D hP hJ hY _ sy' p a' w' _ hk ⟨ok,w0,st',h1,hs',hl.rel,h5⟩ fun sy' p' a' w' hk hs'=>hQ .normal sy' p' a' w' trivial hk hs'⟩
       have hany:=a7k (n:=n+1) _ _ _ _ hany
       --the whole region at exits that are no panics
       have hcut:=c4W (n:=n+1) (Q:=Q) hch (fun a w h=>h) (ops.extract 0 j).size ops.size (Array.replicate (ops.extract 0 j).size false) (Array.replicate ops.size false) a { w with drawn:=w.drawn+1} (by simp;omega) (by simp) (fun i hi=>by
        rw [a1l (by simp;omega),a1l (by simp;omega)];simp) (fun i hi hi2=>by
        rw [a1l (by simp;omega)];simp) (fun m i hm=>by
        by_cases h:m<ops.size
        · rw [a1l (by simpa using h)]at hm;simp at hm
        · rw [a9G (by simpa using h)]at hm;cases hm) (by simp;omega) hany
       exact(wpIn_wide (n:=n+1)).1 (wpIn_region_any hP.mix hcut)
     · exact c3j hP h hs fun e sy' a' w' hp hk hs'=>hQ e sy' p a' w' hp hk hs'
   · exact h.elim
 |seq x y ihx ihy=>
  intro sy p a w K Q h hs hQ;refine wp_seq (ihx sy p a w _ _ h hs fun e sy1 p1 a1 w1 hp hk hs1=> ?_);cases e with
  |normal=>exact ihy sy1 p1 a1 w1 K Q hk hs1 hQ
  |exit id=>exact hQ _ _ _ _ _ hp hk hs1
  |ret=>exact hQ _ _ _ _ _ hp hk hs1
  |goto l=>exact hp.elim
  |panic c=>exact hp.elim
  |outgrown=>exact hp.elim
 |cond c x y ihx ihy=>
  intro sy p a w K Q h hs hQ;simp only [a3t]at h;split at h
  · rename_i b hcd;obtain⟨ok,w0,st,h1,hsim,hrel,h5⟩:=hs;obtain⟨s,g1,g2,_⟩:=j9 hsim hcd;have:=g2.sc;subst this;have hb:a.eval c= .bool b:=by simpa [den]using (hrel.ev c _ g1).2
    cases b with
    |true=>exact wp_cond_true hb (ihx sy p a w K Q h ⟨ok,w0,st,h1,hsim,hrel,h5⟩ hQ)
    |false=>exact wp_cond_false hb (ihy sy p a w K Q h ⟨ok,w0,st,h1,hsim,hrel,h5⟩ hQ)
  · exact h.elim
 |block id c ih=>
  intro sy p a w K Q h hs hQ;refine wp_block (ih sy p a w _ _ h hs fun e sy1 p1 a1 w1 hp hk hs1=> ?_);cases e with
  |normal=>exact hQ _ _ _ _ _ hp hk hs1
  |exit j=>
   simp only [Exit.inBlock];simp only at hk;split at hk
   · rename_i hb;rw [e9 (r6 hb)];exact hQ .normal _ _ _ _ trivial hk hs1
   · rename_i hb;rw [i6 (a0L hb)];exact hQ _ _ _ _ _ hp hk hs1
  |ret=>exact hQ _ _ _ _ _ hp hk hs1
  |goto l=>exact hp.elim
  |panic c=>exact hp.elim
  |outgrown=>exact hp.elim
 |scope c ih=>
  intro sy p a w K Q h hs hQ;refine wp_scope_straight (ih sy p a w K _ h hs fun e sy1 p1 a1 w1 hp hk hs1=> ?_);cases e with
  |normal=>exact hQ _ _ _ _ _ hp hk hs1
  |exit j=>exact hQ _ _ _ _ _ hp hk hs1
  |ret=>exact hQ _ _ _ _ _ hp hk hs1
  |goto l=>exact hp.elim
  |panic c=>exact hp.elim
  |outgrown=>exact hp.elim
 |loop c ih=>
  intro sy p a w K Q h hs hQ;have h:a8T (a3t X l xs yl c) sy p K:=h;obtain⟨α,f,pf,inv,μ,⟨x0,hsub,rfl,hinv⟩,hround⟩:=h.ex
  have sub:∀ {sy sy':Sy} {p:Pre} {a:Act} {w:World},F6 sy sy'→Seg X xs ok0 W0 J Jx p sy a w→Seg X xs ok0 W0 J Jx p sy' a w:=by
   intro sy sy' p a w hsub ⟨ok,w0,st,h1,hsim,hrel,h5⟩;obtain⟨st0,hs0,hr0,_⟩:=hsub.rel (b3S (ok:=ok) (w0:=w0) h5.1) hsim hrel;exact⟨ok,w0,st0,h1,hs0,hr0,h5⟩
  refine(wpIn_wide (n:=n+1)).1 (wpIn_loop_ghost (fun m a1 w1=>∃x,μ x=m∧inv x∧Seg X xs ok0 W0 J Jx (some (pf x)) (f x) a1 w1) (μ x0) ⟨x0,rfl,hinv,sub hsub hs⟩ ?_);rintro m a1 w1 ⟨x,rfl,hinv1,hs1⟩;refine(wpIn_wide (n:=n+1)).2 (ih (f x) _ a1 w1 _ _ (hround x hinv1) hs1 fun e sy2 p2 a2 w2 hp hk hs2=> ?_);cases e with
  |normal=>
   obtain⟨y,hsb,rfl,hi,hlt⟩:=hk;exact⟨μ y,hlt,y,rfl,hi,sub hsb hs2⟩
  |exit j=>exact hQ _ _ _ _ _ hp hk hs2
  |ret=>exact hQ _ _ _ _ _ hp hk hs2
  |goto l=>exact hp.elim
  |panic c=>exact hp.elim
  |outgrown=>exact hp.elim
 |_=>exact fun sy p a w K Q h hs hQ=>(h:False).elim
end
def c7s (xs:List (List D)) (e:Exit) (_:Sy) (p:Pre):Prop:=match e with
 | .normal=>p=none∨p=some xs
 | .ret=>p=none∨p=some xs
 |_=>False
theorem c4w {X:Cy} (hP:POK X.P X.tt) {f:FuncId} {fn:Func} {c:Code} (caps:List D) (xs:List (List D)) (yl:List (Nat×Nat)) (hf:X.P.funcs[f]?=some fn) (hb:fn.body=some c) (hn:X.nt=fn.ntmps) (hl:caps.length+1≤fn.ntmps) (hres:fn.results= #[])
 (h:∀l,a3t X l xs yl c ⟨a0t 0 (.v (.func (.yield l) #[] #[])::caps), [],0⟩ (some []) (c7s xs)) (h0:X.dfs= []:=by rfl) (hg:fn.ntmps≤E7:=by exact F7 rfl):a5w X.P f caps xs:=by
 intro ok O0 W vl n l J Jx hrep hok hO hgi hJ hJx hY hJ0;refine callsIn_wide.2 (calls_of_wp hf hb (c2S (ok0:=ok) (W0:=W) (l:=l) (n:=n) (J:=J) (Jx:=Jx) hP hJ hY c _ _ _ _ _ _ (h l) ?_ fun e sy' p' a' w' hp hk hs'=> ?_))
 · have hlen:=hrep.length
   obtain⟨g1,g2⟩:=a8w (X:=X) (ok:=ok) (w:=W) (a:= { tmps:=(#[.func (.yield l) #[] #[]]++vl.toArray)++Array.replicate (fn.ntmps-(#[Value.func (.yield l) #[] #[]]++vl.toArray).size) undef,defers:= []}) (T:=a0t 0 (.v (.func (.yield l) #[] #[])::caps)) (nk:=0)
    ⟨by simp [hn,←hlen];omega,hn▸hg⟩ h0.symm (fun b hb=>(hok b hb).1) (fun d x hx=>by
     right;have hr2:j1 ok W (.v (.func (.yield l) #[] #[])::caps) (.func (.yield l) #[] #[]::vl):=by simp only [j1,Rep];exact⟨⟨trivial,rfl⟩,hrep⟩
     obtain⟨_,h2⟩:=a0M hx;obtain⟨y,h3,h4⟩:=hr2.get h2;refine⟨y, ?_,h4⟩;have hlt:=(I5.1 h3).1;rw [a4q (by simp at hlt⊢;omega)];have:(#[Value.func (.yield l) #[] #[]]++vl.toArray)=(Value.func (.yield l) #[] #[]::vl).toArray:=by apply F9;simp
     rw [this];simpa using h3)
   exact⟨ok,W,_,fun b hb=>⟨(hok b hb).1, .inl hb⟩,g1,g2,hgi,u0 _,O0,fun b hb=>⟨hO b hb,fun h=>(hok b h).2 hb⟩,hJ0⟩
 · obtain⟨ok1,w0,st,h1,hsim,hrel,_,h5⟩:=hs';have hrun:=a0F (X:=cx X w0 []) hP.tt hrel (fn:=fn) (l:= []) (by rw [hres];rfl);have hfx:=a8S (show Fx [] w0 w' from hrel.cls.fx0)
   have fin:(p'=none∨p'=some xs)→a'.defers= []∧∃v,(results fn a'.tmps).run X.P w'= .ok v w'∧(∃v1,Ending.returned v= .returned v1)∧((∃O,J xs O w')∨∃pre,pre<+:xs∧Jx pre w'):=by
    intro hp';refine⟨hrel.dfs.trans h0,_,hrun,⟨_,rfl⟩, ?_⟩;rcases hp' with rfl|rfl
    · obtain⟨pre,h6,h7⟩:=h5;exact .inr ⟨pre,h6,hJx _ _ _ h7 hfx⟩
    · obtain⟨_,O,_,h7⟩:=h5;exact .inl ⟨O,hJ _ _ _ _ h7 hfx⟩
   cases e with
   |normal=>exact fin hk
   |ret=>exact fin hk
   |exit id=>exact hk.elim
   |goto l=>exact hp.elim
   |panic c=>exact hp.elim
   |outgrown=>exact hp.elim
end Go.Sx
