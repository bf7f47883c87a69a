/- The walk over pure data: its definitions, that it is sound, and what may be read at a type. -/
import Derived.Test.YtlngjieodaocfaaGreatDoorB1
import Derived.Laws.CopyRow
import Derived.RangeFuncNested
import Derived.RangeFuncBound
import Derived.RangeFuncCalls
import Derived.RangeFuncLeaves
import Derived.TacticsIn
import Derived.OrdersIn
import Derived.Sort.LoopGhostIn
set_option linter.unusedVariables false
set_option linter.unusedSimpArgs false
namespace Go.Sx
open Go Go.RowKit
section
variable {A : Nat → Prop} {X : Cy} {w0 : World} {bor : List Nat} {st : St} {sy : Sy} {a : Act} {w : World} {Q : Exit → Act → World → Prop}
theorem b5G {n:Nat} {H:Hp}:∀(Hd:Hy),(fwH n H Hd).map (·.1)=a0O Hd
 | []=>rfl
 |(k, .blk ds ty)::r=>by
  simp only [fwH,a0O,List.map_cons,b5G r]
  congr 1
  split<;>rfl
 |(k, .row z m l ty)::r=>by
  simp only [fwH,a0O,List.map_cons,b5G r]
  congr 1
  split<;>rfl
theorem a6e {k:Nat}:∀ {H:Hy},P8 k (a0O H)=true→∃e,j3 H k=some e
 | [],h=>by simp [a0O,P8]at h
 |(j,e)::r,h=>by
  simp only [a0O,P8]at h
  simp only [j3]
  cases hb:Nat.beq j k with
  |true=>exact⟨e,rfl⟩
  |false=>
   rw [hb]at h
   exact a6e h
theorem b1H {n:Nat} {H:Hp} {k b:Nat} {cs:List SV} {ty ty0:TypeId} {ds:List D} (hf:c9 H k=some (.blk b cs ty)):∀ {Hd:Hy},j3 Hd k=some (.blk ds ty0)→c9 (fwH n H Hd) k=some (.blk b (fwB ds cs) ty)
 | [],h=>by simp [j3]at h
 |(j,e)::r,h=>by
  simp only [j3]at h
  cases hb:Nat.beq j k with
  |true=>
   rw [hb]at h;cases h
   have:=w4 hb;subst this
   simp only [fwH,hf,c9,hb]
  |false=>
   rw [hb]at h
   have ih:=b1H hf (n:=n) h
   cases e with
   |blk d t=>
    simp only [fwH]
    split<;>simp only [c9,hb]<;>exact ih
   |row z m l t=>
    simp only [fwH]
    split<;>simp only [c9,hb]<;>exact ih
theorem b1t {n:Nat} {H:Hp} {k z m z' m':Nat} {l:List D} {v:Value} {xs:List Value} {ty ty':TypeId} (hb0:Nat.blt k n=true) (hf:c9 H k=some (.row v m' xs z' ty')):∀ {Hd:Hy},j3 Hd k=some (.row z m l ty)→c9 (fwH n H Hd) k=some (.row v m' xs z' ty')
 | [],h=>by simp [j3]at h
 |(j,e)::r,h=>by
  simp only [j3]at h
  cases hb:Nat.beq j k with
  |true=>
   rw [hb]at h;cases h
   have:=w4 hb;subst this
   simp only [fwH,hf,hb0,c9,hb]
  |false=>
   rw [hb]at h
   have ih:=b1t hb0 hf (n:=n) h
   cases e with
   |blk d t=>
    simp only [fwH]
    split<;>simp only [c9,hb]<;>exact ih
   |row z m l t=>
    simp only [fwH]
    split<;>simp only [c9,hb]<;>exact ih
theorem b1m {n:Nat} {H:Hp} {k z m:Nat} {l:List D} {ty:TypeId} (hb0:Nat.blt k n=false):∀ {Hd:Hy},j3 Hd k=some (.row z m l ty)→c9 (fwH n H Hd) k=some (.row (.slice none 0 0) 0 [] z ty)
 | [],h=>by simp [j3]at h
 |(j,e)::r,h=>by
  simp only [j3]at h
  cases hb:Nat.beq j k with
  |true=>
   rw [hb]at h;cases h
   have:=w4 hb;subst this
   simp only [fwH,hb0,c9,hb]
  |false=>
   rw [hb]at h
   have ih:=b1m hb0 (n:=n) (H:=H) h
   cases e with
   |blk d t=>
    simp only [fwH]
    split<;>simp only [c9,hb]<;>exact ih
   |row z m l t=>
    simp only [fwH]
    split<;>simp only [c9,hb]<;>exact ih
theorem b2s {n:Nat} {H:Hy} {k:Nat} {e:E}:∀ {Hd:Hy},b1y n H Hd→j3 Hd k=some e→b5y n H k e
 | [],_,h=>by simp [j3]at h
 |(j,e')::r,hs,h=>by
  simp only [b1y]at hs
  simp only [j3]at h
  cases hb:Nat.beq j k with
  |true=>rw [hb]at h;cases h;have:=w4 hb;subst this;exact hs.1
  |false=>rw [hb]at h;exact b2s hs.2 h
theorem a4n {n:Nat} {ks:List Nat} {k:Nat} {ds:List D} {ty:TypeId}:∀ {Hd:Hy},c0D n ks Hd=true→j3 Hd k=some (.blk ds ty)→k<n∧b5W n ks ds=true
 | [],_,h=>by simp [j3]at h
 |(j, .blk d t)::r,hs,h=>by
  simp only [c0D]at hs
  split at hs
  · rename_i h1 h2
    simp only [j3]at h
    cases hb:Nat.beq j k with
    |true=>rw [hb]at h;cases h;have:=w4 hb;subst this;exact⟨a2I.1 h1,h2⟩
    |false=>rw [hb]at h;exact a4n hs h
  · cases hs
 |(j, .row z m l t)::r,hs,h=>by
  simp only [c0D]at hs
  simp only [j3]at h
  cases hb:Nat.beq j k with
  |true=>rw [hb]at h;cases h
  |false=>rw [hb]at h;exact a4n hs h
theorem b4J {l:List Nat} (h:ndB l=true):l.Nodup:=c5W h
theorem b8h {T:List (Nat×SV)} {d:Nat}:∀ {Td:List (Nat×D)} {x:D} {s:SV},s7 Td d=some x→y0 T d=some s→y0 (fwT T Td) d=some (fwS x s)
 | [],_,_,h,_=>by simp [s7]at h
 |(i,y)::r,x,s,h,hl=>by
  simp only [s7]at h
  cases hb:Nat.beq i d with
  |true=>
   rw [hb]at h;cases h
   have:=w4 hb;subst this
   simp only [fwT,hl,y0,hb]
  |false=>
   rw [hb]at h
   simp only [fwT]
   split<;>simp only [y0,hb]<;>exact b8h h hl
theorem b4G {n:Nat} {ks:List Nat}:∀ {Td:List (Nat×D)},c3U n ks Td=true→∀p,p∈Td→inK n ks p.2=true
 | [],_,_,h=>by cases h
 |(i,y)::r,hs,p,h=>by
  simp only [c3U]at hs
  split at hs
  · rename_i h1
    rcases List.mem_cons.1 h with rfl|h
    · exact h1
    · exact b4G hs p h
  · cases hs
theorem b5F {n:Nat}:∀ {H:Hy},ltY n H=true→∀k,k∈a0O H→k<n
 | [],_,_,h=>by cases h
 |(j,e)::r,hs,k,h=>by
  simp only [ltY]at hs
  split at hs
  · rename_i hb
    simp only [a0O]at h
    rcases List.mem_cons.1 h with rfl|h
    · exact a2I.1 hb
    · exact b5F hs k h
  · cases hs
theorem c0T {H:Hy} {k:Nat} {e:E} (h:j3 H k=some e):(k,e)∈H:=by
 induction H with
 |nil=>simp [j3]at h
 |cons x H ih=>
  obtain⟨j,e'⟩:=x
  simp only [j3]at h
  cases hb:Nat.beq j k with
  |true=>rw [hb]at h;cases h;rw [w4 hb];exact List.mem_cons_self
  |false=>rw [hb]at h;exact List.mem_cons_of_mem _ (ih h)
theorem b4x {H:Hy} {k:Nat} {e:E} (h:(k,e)∈H):k∈a0O H:=by
 induction H with
 |nil=>cases h
 |cons x H ih=>
  obtain⟨j,e'⟩:=x
  simp only [a0O]
  rcases List.mem_cons.1 h with h|h
  · cases h;exact List.mem_cons_self
  · exact List.mem_cons_of_mem _ (ih h)
theorem a9P {H:Hy} (hn:(a0O H).Nodup) {k:Nat} {e:E} (h:(k,e)∈H):j3 H k=some e:=by
 induction H with
 |nil=>cases h
 |cons x H ih=>
  obtain⟨j,e'⟩:=x
  simp only [a0O,List.nodup_cons]at hn
  simp only [j3]
  rcases List.mem_cons.1 h with h|h
  · cases h;simp
  · have hk:=b4x h
    have:j≠k:=fun e=>hn.1 (e▸hk)
    rw [Z1 this];exact ih hn.2 h
theorem c1n {T:List (Nat×D)} {d:Nat} {x:D} (hx:s7 T d=some x):(d,x)∈T:=by
 induction T with
 |nil=>simp [s7]at hx
 |cons p T ih=>
  obtain⟨i,y⟩:=p
  simp only [s7]at hx
  cases hbq:Nat.beq i d with
  |true=>rw [hbq]at hx;cases hx;have:=w4 hbq;subst this;exact List.mem_cons_self
  |false=>rw [hbq]at hx;exact List.mem_cons_of_mem _ (ih hx)
theorem c5R.rel {sy':Sy} (h:c5R sy sy') (hs:Sim A st sy) (hr:Rel (cx X w0 bor) st a w):∃st',Sim A st' sy'∧Rel (cx X w0 bor) st' a w∧∀b,b∈bs st'.H→b∈bs st.H:=by
 obtain⟨n,hshape,hT,hH⟩:=h.ex
 have hs0:=hs.now hr.cls
 have hr0:=hr.now
 obtain⟨T',H',nk'⟩:=sy'
 simp only at hT hH
 unfold b0a at hshape
 split at hshape
 · rename_i h1 h2 h3 h4
   simp only at h1 h2 h3 h4
   have hkn:=b4J h1
   let Hn:Hp:=fwH n st.H H'
   let Tn:=fwT st.T T'
   let st':St:=⟨Tn,Hn,nk',w,w.heap.size, []⟩
   --each entry of the shape
   have entO:∀k e,j3 H' k=some e→(∀ds ty,e= .blk ds ty→∃b cs,c9 st.H k=some (.blk b cs ty)∧c9 Hn k=some (.blk b (fwB ds cs) ty)∧b0V (okS A (now st w)) w (B1 (now st w)) (a2N n ds) cs)∧
    (∀z m l ty,e= .row z m l ty→(Nat.blt k n=true∧∃v xs,c9 st.H k=some (.row v m xs z ty)∧c9 Hn k=some (.row v m xs z ty)∧d6 (okS A (now st w)) w l xs∧A9 l=true∧l.length=m*z)∨
     (Nat.blt k n=false∧m=0∧l= []∧c9 Hn k=some (.row (.slice none 0 0) 0 [] z ty))):=by
    intro k e he
    have hsub:=b2s hH he
    refine⟨fun ds ty heq=> ?_,fun z m l ty heq=> ?_⟩
    · subst heq
      simp only [b5y]at hsub
      obtain⟨cs0,hsub,hle⟩:=hsub
      obtain⟨e',h5,h6⟩:=hs0.H k _ hsub
      cases e' with
      |row=>exact h6.elim
      |blk b cs ty'=>
       obtain⟨rfl,h6⟩:=h6
       exact⟨b,cs,h5,b1H h5 he,b6d _ _ _ hle h6⟩
    · subst heq
      simp only [b5y]at hsub
      cases hb:Nat.blt k n with
      |true=>
       rw [hb]at hsub
       obtain⟨m0,l0,hsub,rfl,rfl⟩:=hsub
       obtain⟨e',h5,h6⟩:=hs0.H k _ hsub
       cases e' with
       |blk=>exact h6.elim
       |row v m' xs z' ty'=>
        obtain⟨rfl,rfl,rfl,h7,h8,h9⟩:=h6
        exact .inl ⟨rfl,v,xs,h5,b1t hb h5 he,h7,h8,h9⟩
      |false=>
       rw [hb]at hsub
       obtain⟨rfl,rfl⟩:=hsub
       exact .inr ⟨rfl,rfl,rfl,b1m hb he⟩
   have hnkk:∀k,P8 k (a0O H')=true→k<nk':=fun k hk=>by
    obtain⟨e,he⟩:=a6e hk
    exact b5F h2 k (b4x (c0T he))
   have hz:c0s (okS A (now st w)) w n (a0O H') (B1 (now st w)) (B1 st') st.H Hn:=by
    refine⟨fun q j hj hlt hq=>⟨hnkk j hj,fun hq2=> ?_⟩,fun j hj hlt=> ?_,fun j hj hlt=> ?_⟩
    · obtain⟨e,he⟩:=a6e hj
      obtain⟨v,m,xs,z,ty,hrow⟩:=hq.2 hq2
      cases e with
      |blk ds ty=>
       obtain⟨b,cs,g1,_⟩:=(entO j _ he).1 ds ty rfl
       simp only [now]at hrow
       rw [g1]at hrow;cases hrow
      |row z m l ty=>
       rcases(entO j _ he).2 z m l ty rfl with⟨_,v,xs,_,g2,_⟩|⟨g1,_⟩
       · exact⟨_,_,_,_,_,g2⟩
       · rw [a2I.2 hlt]at g1;cases g1
    · obtain⟨e,he⟩:=a6e hj
      cases e with
      |blk ds ty=>
       obtain⟨b,cs,g1,g2,_⟩:=(entO j _ he).1 ds ty rfl
       simp only [bOf,m8,g1,g2];exact⟨trivial,trivial⟩
      |row z m l ty=>
       rcases(entO j _ he).2 z m l ty rfl with⟨_,v,xs,g1,g2,_⟩|⟨g1,_⟩
       · simp only [bOf,m8,g1,g2];exact⟨trivial,trivial⟩
       · rw [a2I.2 hlt]at g1;cases g1
    · obtain⟨e,he⟩:=a6e hj
      cases e with
      |blk ds ty=>exact absurd (a4n h4 he).1 hlt
      |row z m l ty=>
       rcases(entO j _ he).2 z m l ty rfl with⟨g1,_⟩|⟨_,_,_,g2⟩
       · exact absurd (a2I.1 g1) hlt
       · exact⟨⟨hnkk j hj,fun _=>⟨_,_,_,_,_,g2⟩⟩,by simp [m8,g2]⟩
   --the entries' source
   have hsrc:∀Hd:Hy,(∀k e,(k,e)∈Hd→(k,e)∈H')→a7M st.H Hn (a7c n Hd) (fwH n st.H Hd):=by
    intro Hd
    induction Hd with
    |nil=>intro _;trivial
    |cons x Hd ih=>
     intro hsubm
     obtain⟨k,e⟩:=x
     have hmem:=hsubm k e List.mem_cons_self
     have he:=a9P hkn hmem
     have ih:=ih fun k e h=>hsubm k e (List.mem_cons_of_mem _ h)
     cases e with
     |blk ds ty=>
      obtain⟨b,cs,g1,g2,g3⟩:=(entO k _ he).1 ds ty rfl
      obtain⟨q1,q2⟩:=a4n h4 he
      simp only [a7c,fwH,g1,a7M]
      refine⟨?_,ih⟩
      simp only [b6R]
      exact⟨trivial,(a9z hz ds cs g3 q2).2,trivial⟩
     |row z m l ty=>
      rcases(entO k _ he).2 z m l ty rfl with⟨hb,v,xs,g1,g2,_⟩|⟨hb,rfl,rfl,g2⟩
      · simp only [a7c,fwH,hb,g1,a7M]
        exact⟨by simp only [b6R];exact⟨trivial,trivial,trivial,trivial,trivial⟩,ih⟩
      · simp only [a7c,fwH,hb,a7M]
        exact⟨⟨trivial,trivial,trivial⟩,ih⟩
   --the slots
   have hin:=b4G h3
   have hent:∀p,p∈T'→∃s0,y0 st.T p.1=some s0∧s0≠ .bad∧c6 (okS A (now st w)) w (B1 st') p.2 (fwS p.2 s0)∧den Hn (fwS p.2 s0)=den st.H s0:=by
    have hall:∀Td:List (Nat×D),b2t n sy.T Td→∀p,p∈Td→∃y,s7 sy.T p.1=some y∧leD y (back n p.2):=by
     intro Td
     induction Td with
     |nil=>intro _ p hp;cases hp
     |cons q Td ih=>
      intro hq p hp
      simp only [b2t]at hq
      rcases List.mem_cons.1 hp with rfl|hp
      · exact hq.1
      · exact ih hq.2 p hp
    intro p hp
    have hi:=hin p hp
    have hbad:p.2≠ .bad:=fun e=>by rw [e]at hi;simp [inK]at hi
    have hbk:back n p.2≠ .bad:=by
     cases hx:p.2<;>simp only [back]<;>first|(intro e;cases e)|skip
     · split<;>(intro e;cases e)
     · exact absurd hx hbad
    obtain⟨y,hy1,hy2⟩:=hall T' hT p hp
    rcases hs0.T p.1 y hy1 with e|⟨s,g1,g2⟩
    · subst e;simp only [leD]at hy2;exact absurd hy2.symm hbk
    · have g2:=b8P _ _ _ hy2 g2
      obtain⟨g3,g4⟩:=b9t hz p.2 s g2 hi
      exact⟨s,g1,g2.ne hbk,g3,g4⟩
   have hsubT:∀Td:List (Nat×D),(∀p,p∈Td→p∈T')→c2I st.H Hn st.T (fwT st.T Td)∧∀j,nk'≤j→u4 j (fwT st.T Td)=true:=by
    intro Td
    induction Td with
    |nil=>intro _;exact⟨trivial,fun _ _=>rfl⟩
    |cons q Td ih=>
     intro hm
     obtain⟨s0,g1,g2,g3,g4⟩:=hent q (hm q List.mem_cons_self)
     obtain⟨i1,i2⟩:=ih fun p hp=>hm p (List.mem_cons_of_mem _ hp)
     obtain⟨d,x⟩:=q
     simp only at g1 g2 g3 g4
     simp only [fwT,g1]
     refine⟨⟨?_,i1⟩,fun j hj=> ?_⟩
     · rw [g1]
       cases s0<;>first|exact g4.symm|exact absurd rfl g2
     · have hm0:ment j (fwS x s0)=false:=c6.ment (fun p hp=>by have:=hp.1;simp only [st']at this;omega) _ _ g3
       simp only [u4,hm0]
       exact i2 j hj
   obtain⟨k1,k2⟩:=hsubT T' fun _ h=>h
   have hkeys:(Hn.map (·.1))=a0O H':=b5G H'
   have hsub:Sub (now st w) st':=by
    refine⟨a7c n H',k1,hsrc H' (fun _ _ h=>h), ?_,by simp only [st'];rw [hkeys];exact hkn,fun k hk=> ?_⟩
    · have:∀Hd:Hy,(a7c n Hd).filterMap id=(a0O Hd).filter (fun k=>P8 k ((a7c n Hd).filterMap id))∨True:=fun _=> .inr trivial
      have hsubl:∀Hd:Hy,((a7c n Hd).filterMap id).Sublist (a0O Hd):=by
       intro Hd
       induction Hd with
       |nil=>exact List.Sublist.slnil
       |cons x Hd ih=>
        obtain⟨k,e⟩:=x
        cases e with
        |blk ds ty=>simp only [a7c,a0O,List.filterMap_cons,id];exact List.Sublist.cons_cons _ ih
        |row z m l ty=>
         simp only [a7c,a0O]
         cases hb:Nat.blt k n with
         |true=>simp only [List.filterMap_cons,id];exact List.Sublist.cons_cons _ ih
         |false=>simp only [List.filterMap_cons,id];exact List.Sublist.cons _ ih
      exact(hsubl H').nodup hkn
    · simp only [st']at hk
      rw [hkeys]at hk
      exact b5F h2 k hk
   obtain⟨hrel,hbs⟩:=hsub.rel hr0 ⟨rfl,rfl,rfl⟩
   have hok:∀b,okS A (now st w) b→okS A st' b∧w.heap[b]?=w.heap[b]?:=fun b hb=>⟨⟨⟨.inl hb.2.1,hb.1.2⟩,hb.2.1,fun c hc=>hb.2.2 c (hbs c hc)⟩,rfl⟩
   refine⟨st',⟨fun d x hx=> ?_,fun k e he=> ?_,rfl,k2,fun j hj=> ?_⟩,hrel,hbs⟩
   · right
     have hp:(d,x)∈T':=c1n hx
     obtain⟨s0,g1,g2,g3,g4⟩:=hent _ hp
     exact⟨fwS x s0,b8h hx g1,c6.mono hok (fun _ _ h=>h) _ _ g3⟩
   · cases e with
     |blk ds ty=>
      obtain⟨b,cs,g1,g2,g3⟩:=(entO k _ he).1 ds ty rfl
      obtain⟨q1,q2⟩:=a4n h4 he
      exact⟨_,g2,by exact⟨rfl,c5.mono hok (fun _ _ h=>h) _ _ (a9z hz ds cs g3 q2).1⟩⟩
     |row z m l ty=>
      rcases(entO k _ he).2 z m l ty rfl with⟨hb,v,xs,g1,g2,g3,g4,g5⟩|⟨hb,rfl,rfl,g2⟩
      · exact⟨_,g2,by exact⟨rfl,rfl,rfl,d6.mono hok _ _ g3,g4,g5⟩⟩
      · exact⟨_,g2,by exact⟨rfl,rfl,rfl,trivial,rfl,by simp⟩⟩
   · have hfr:∀Hd:Hy,(∀k e,(k,e)∈Hd→(k,e)∈H')→G0 j (fwH n st.H Hd)=true:=by
      intro Hd
      induction Hd with
      |nil=>intro _;rfl
      |cons x Hd ih=>
       intro hsubm
       obtain⟨k,e⟩:=x
       have he:=a9P hkn (hsubm k e List.mem_cons_self)
       have ih:=ih fun k e h=>hsubm k e (List.mem_cons_of_mem _ h)
       cases e with
       |blk ds ty=>
        obtain⟨b,cs,g1,g2,g3⟩:=(entO k _ he).1 ds ty rfl
        obtain⟨q1,q2⟩:=a4n h4 he
        simp only [fwH,g1]
        refine a0b ?_ ih
        simp only [a6Q,Bool.not_eq_true']
        exact(a9z hz ds cs g3 q2).1.ment fun p hp=>by have:=hp.1;simp only [st']at this hj;omega
       |row z m l ty=>
        simp only [fwH]
        split<;>exact a0b rfl ih
     exact hfr H' fun _ _ h=>h
 · cases hshape
theorem b9X {sy1:Sy} {ks:List Nat} (hA:∀b,(w0.heap.size≤b∨b∈bor)→A b) (hf:a5X ks sy []=some (sy1, [])) (hs:Sim A st sy) (hr:Rel (cx X w0 bor) st a w):∃st',Sim A st' sy1∧Rel (cx X w0 bor) st' a w∧∀b,b∈bs st'.H→b∈bs st.H:=by
 have hr0:=hr.now
 have hs0:=hs.now hr.cls
 obtain⟨st1,_,c1,a1,s1,b1,o1,_,_⟩:=a6a (Xx:=cx X w0 bor) (r:= []) hA _ hr0.cls ⟨rfl,rfl,rfl⟩ hs0 (by simp only [c5]) hf
 refine⟨st1,s1, ?_,fun b hb=>b1.bs b hb⟩
 refine⟨hr.size,fun d s hd=> ?_,hr.dfs, ?_, ?_, ?_⟩
 · rcases o1 d s hd with e|⟨s0,h1,h2,h3⟩
   · exact .inl e
   · rcases hr0.T d s0 h1 with e|e
     · exact absurd e h2
     · right;rw [e,h3]
 · rw [a1.1];exact c1
 · rw [a1.2.1];exact Nat.le_refl _
 · rw [a1.2.2];simp
theorem Q0.rel {sy':Sy} (hA:∀b,(w0.heap.size≤b∨b∈bor)→A b) (h:Q0 sy sy') (hs:Sim A st sy) (hr:Rel (cx X w0 bor) st a w):∃st',Sim A st' sy'∧Rel (cx X w0 bor) st' a w∧∀b,b∈bs st'.H→b∈bs st.H:=by
 obtain⟨ks,sy1,hf,hk⟩:=h.ex
 obtain⟨st1,s1,hr1,b1⟩:=b9X hA hf hs hr
 obtain⟨st2,h1,h2,h3⟩:=hk.rel s1 hr1
 exact⟨st2,h1,h2,fun b hb=>b1 b (h3 b hb)⟩
end
end Go.Sx
namespace Go.Sx
open Go Go.RowKit
section
variable {A : Nat → Prop} {X : Cy} {w0 : World} {bor : List Nat} {st : St} {sy : Sy} {a : Act} {w : World}
theorem a3I (hs:Sim A st sy):∀ {rs:List ResultVar} {l:List D},a1m X sy rs=some l→∃l',a8H (cx X w0 bor) st rs=some l'∧c5 (okS A st) st.w (B1 st) l l'
 | [],l,h=>by simp only [a1m]at h;cases h;exact⟨[],rfl,trivial⟩
 | .tmp t::rs,l,h=>by
  simp only [a1m]at h
  split at h
  · cases h
  · rename_i x l1 hb hx hl
    cases h
    obtain⟨l',h1,h2⟩:=a3I hs hl
    obtain⟨hlt,hx⟩:=a3H hx
    rcases hs.T t x hx with e|⟨s,h3,h4⟩
    · exact absurd e hb
    · have hsb:=h4.ne hb
      refine⟨s::l', ?_,h4,h2⟩
      simp only [a8H,a7v hlt,h3,h1]
      try (cases s<;>first|rfl|exact absurd rfl hsb)
  · cases h
 | .cell b t::rs,l,h=>by
  simp only [a1m]at h
  split at h
  · rename_i i k o l1 hi hx hl
    obtain⟨l',h1,h2⟩:=a3I hs hl
    split at h
    · rename_i cs ty hf
      obtain⟨e',hf',he⟩:=hs.H _ _ hf
      cases e' with
      |row=>exact he.elim
      |blk b' cs' ty'=>
       split at h
       · rename_i c hc
         split at h
         · rename_i x hm
           cases h
           obtain⟨r,h3,h4⟩:=(he.2.dropD o).takeD hc
           obtain⟨s,h5,h6⟩:=c0h h4 hm
           obtain⟨hlt,hx⟩:=a3H hx
           rcases hs.T b _ hx with e|⟨s0,h7,h8⟩
           · cases e
           · simp only [c6]at h8
             obtain⟨rfl,_⟩:=h8
             exact⟨s::l',by simp only [a8H,cx,hi,a7v hlt,h7];rw [show a8H ⟨X.P,X.tt,w0,bor,X.nt,X.pl,X.dfs,X.sv⟩ st rs=some l' from h1];simp only [hf',h3,h5],h6,h2⟩
         · cases h
       · cases h
    · cases h
  · cases h
theorem a2q {n:Nat} {l:List D} {d:Nat} {s:D} (h:s7 (a2z n l) d=some s):n≤d∧l[d-n]?=some s:=by
 induction l generalizing n with
 |nil=>simp [a2z,s7]at h
 |cons x l ih=>
  simp only [a2z,s7]at h
  cases hb:Nat.beq n d with
  |true=>rw [hb]at h;cases h;have:=w4 hb;subst this;simp
  |false=>
   rw [hb]at h
   obtain⟨h1,h2⟩:=ih h
   have hne:=a2V hb
   have:d-n=(d-(n+1))+1:=by omega
   rw [this]
   exact⟨by omega,by simpa using h2⟩
theorem a4w {n d:Nat} {l:List SV} {s:SV} (hd:n≤d) (h:l[d-n]?=some s):y0 (a4c n l) d=some s:=by
 induction l generalizing n with
 |nil=>simp at h
 |cons x l ih=>
  simp only [a4c,y0]
  cases hb:Nat.beq n d with
  |true=>have:=w4 hb;subst this;simpa using h
  |false=>
   have hne:=a2V hb
   have:d-n=(d-(n+1))+1:=by omega
   rw [this]at h
   exact ih (by omega) (by simpa using h)
theorem a3o {j n:Nat} {l:List Value}:u4 j (a4c n (vs l))=true:=by
 induction l generalizing n with
 |nil=>rfl
 |cons x l ih=>simp only [vs,a4c,u4,ment];exact ih
theorem a5u {l r:List (Nat×SV)} {d:Nat}:y0 (l++r) d=match y0 l d with|some s=>some s|none=>y0 r d:=by
 induction l with
 |nil=>rfl
 |cons x l ih=>
  obtain⟨e,s⟩:=x
  simp only [List.cons_append,y0]
  cases Nat.beq e d with
  |true=>rfl
  |false=>exact ih
theorem b6i {l r:List (Nat×D)} {d:Nat}:s7 (l++r) d=match s7 l d with|some s=>some s|none=>s7 r d:=by
 induction l with
 |nil=>rfl
 |cons x l ih=>
  obtain⟨e,s⟩:=x
  simp only [List.cons_append,s7]
  cases Nat.beq e d with
  |true=>rfl
  |false=>exact ih
theorem b1l {a b:Nat} (h:Nat.blt a b=true):a<b:=by simpa [Nat.blt_eq]using h
theorem b0l {a b:Nat} (h:Nat.blt a b=false):¬a<b:=fun hl=>by
 have:Nat.blt a b=true:=by rw [Nat.blt_eq];exact hl
 rw [h]at this;cases this
def S3 {α:Type}:List (Nat×α)→Nat→Option α
 | [],_=>none
 |(d,s)::T,k=>match Nat.beq d k with|true=>some s|false=>S3 T k
theorem a2R (T:List (Nat×SV)) (d:Nat):y0 T d=S3 T d:=by
 induction T with
 |nil=>rfl
 |cons p T ih=>obtain⟨e,s⟩:=p;simp only [y0,S3];cases Nat.beq e d;exact ih;rfl
theorem a8g (T:List (Nat×D)) (d:Nat):s7 T d=S3 T d:=by
 induction T with
 |nil=>rfl
 |cons p T ih=>obtain⟨e,s⟩:=p;simp only [s7,S3];cases Nat.beq e d;exact ih;rfl
section
variable {α : Type} {nt : Nat}
theorem b7T (hn:nt≤1000000) (T:List (Nat×α)) {e:Nat} (h:e<1000000):S3 (a0j nt T) e=none:=by
 induction T with
 |nil=>rfl
 |cons p T ih=>
  obtain⟨d,y⟩:=p
  simp only [a0j]
  split
  · rename_i hb
    have:=b1l hb
    have hne:Nat.beq (Nat.add 1000000 d) e=false:=Z1 (by show 1000000+d≠e;omega)
    simp only [S3,hne,ih]
  · split
    · exact ih
    · rename_i hc
      have:=b0l hc
      have hne:Nat.beq (Nat.add d nt) e=false:=Z1 (by show d+nt≠e;omega)
      simp only [S3,hne,ih]
theorem b0Z (hn:nt≤1000000) (T:List (Nat×α)) {e:Nat} (h:e<nt):S3 (a0j nt T) (1000000+e)=S3 T e:=by
 induction T with
 |nil=>rfl
 |cons p T ih=>
  obtain⟨d,y⟩:=p
  simp only [a0j]
  split
  · simp only [S3]
    by_cases he:d=e
    · subst he
      have h1:Nat.beq (Nat.add 1000000 d) (1000000+d)=true:=Nat.beq_refl _
      have h2:Nat.beq d d=true:=Nat.beq_refl _
      rw [h1,h2]
    · have h1:Nat.beq (Nat.add 1000000 d) (1000000+e)=false:=Z1 (by show 1000000+d≠_;omega)
      rw [h1,Z1 he];exact ih
  · rename_i hb
    have hb:=b0l hb
    have hne:Nat.beq d e=false:=Z1 (by omega)
    split
    · simp only [S3,hne,ih]
    · rename_i hc
      have:=b0l hc
      have h1:Nat.beq (Nat.add d nt) (1000000+e)=false:=Z1 (by show d+nt≠_;omega)
      simp only [S3,hne,h1,ih]
theorem b3N (hn:nt≤1000000) (T:List (Nat×α)) {e:Nat} (h:1000000≤e):S3 (a0j nt T) (e+nt)=S3 T e:=by
 induction T with
 |nil=>rfl
 |cons p T ih=>
  obtain⟨d,y⟩:=p
  simp only [a0j]
  split
  · rename_i hb
    have:=b1l hb
    have h1:Nat.beq (Nat.add 1000000 d) (e+nt)=false:=Z1 (by show 1000000+d≠_;omega)
    have hne:Nat.beq d e=false:=Z1 (by omega)
    simp only [S3,hne,h1,ih]
  · split
    · rename_i hc
      have:=b1l hc
      have hne:Nat.beq d e=false:=Z1 (by omega)
      simp only [S3,hne,ih]
    · simp only [S3]
      by_cases he:d=e
      · subst he
        have h1:Nat.beq (Nat.add d nt) (d+nt)=true:=Nat.beq_refl _
        have h2:Nat.beq d d=true:=Nat.beq_refl _
        rw [h1,h2]
      · have h1:Nat.beq (Nat.add d nt) (e+nt)=false:=Z1 (by show d+nt≠_;omega)
        rw [h1,Z1 he];exact ih
theorem a7T (hn:nt≤1000000) (T:List (Nat×α)) {e:Nat} (h:e<nt):S3 (O8 nt T) e=S3 T (1000000+e):=by
 induction T with
 |nil=>rfl
 |cons p T ih=>
  obtain⟨d,y⟩:=p
  simp only [O8]
  split
  · rename_i hb
    have:=b1l hb
    have h1:Nat.beq d (1000000+e)=false:=Z1 (by omega)
    simp only [S3,h1,ih]
  · rename_i hb
    have hb:=b0l hb
    split
    · rename_i hc
      have hc:d<1000000+nt:=b1l hc
      simp only [S3]
      by_cases he:d=1000000+e
      · have h1:Nat.beq (Nat.mod d 1000000) e=true:=by rw [Nat.beq_eq];show d % 1000000=e;omega
        have h2:Nat.beq d (1000000+e)=true:=by rw [Nat.beq_eq];exact he
        rw [h1,h2]
      · have h1:Nat.beq (Nat.mod d 1000000) e=false:=Z1 (by show d % 1000000≠e;omega)
        rw [h1,Z1 he];exact ih
    · rename_i hc
      have hc:¬d<1000000+nt:=b0l hc
      have h1:Nat.beq (Nat.sub d nt) e=false:=Z1 (by show d-nt≠e;omega)
      have h2:Nat.beq d (1000000+e)=false:=Z1 (by omega)
      simp only [S3,h1,h2,ih]
theorem a9h (hn:nt≤1000000) (T:List (Nat×α)) {e:Nat} (h:1000000≤e):S3 (O8 nt T) e=S3 T (e+nt):=by
 induction T with
 |nil=>rfl
 |cons p T ih=>
  obtain⟨d,y⟩:=p
  simp only [O8]
  split
  · rename_i hb
    have:=b1l hb
    have h1:Nat.beq d (e+nt)=false:=Z1 (by omega)
    simp only [S3,h1,ih]
  · rename_i hb
    have hb:=b0l hb
    split
    · rename_i hc
      have hc:d<1000000+nt:=b1l hc
      have h1:Nat.beq (Nat.mod d 1000000) e=false:=Z1 (by show d % 1000000≠e;omega)
      have h2:Nat.beq d (e+nt)=false:=Z1 (by omega)
      simp only [S3,h1,h2,ih]
    · rename_i hc
      have hc:¬d<1000000+nt:=b0l hc
      simp only [S3]
      by_cases he:d=e+nt
      · have h1:Nat.beq (Nat.sub d nt) e=true:=by rw [Nat.beq_eq];show d-nt=e;omega
        have h2:Nat.beq d (e+nt)=true:=by rw [Nat.beq_eq];exact he
        rw [h1,h2]
      · have h1:Nat.beq (Nat.sub d nt) e=false:=Z1 (by show d-nt≠e;omega)
        rw [h1,Z1 he];exact ih
theorem b2K (hn:nt≤1000000) (T:List (Nat×α)) {e:Nat} (h:¬e<nt) (h':e<1000000):S3 (O8 nt T) e=none:=by
 induction T with
 |nil=>rfl
 |cons p T ih=>
  obtain⟨d,y⟩:=p
  simp only [O8]
  split
  · exact ih
  · rename_i hb
    have hb:=b0l hb
    split
    · rename_i hc
      have hc:d<1000000+nt:=b1l hc
      have h1:Nat.beq (Nat.mod d 1000000) e=false:=Z1 (by show d % 1000000≠e;omega)
      simp only [S3,h1,ih]
    · rename_i hc
      have hc:¬d<1000000+nt:=b0l hc
      have h1:Nat.beq (Nat.sub d nt) e=false:=Z1 (by show d-nt≠e;omega)
      simp only [S3,h1,ih]
end
theorem b7n {j nt:Nat} {T:List (Nat×SV)} (h:u4 j T=true):u4 j (a0j nt T)=true:=by
 induction T with
 |nil=>rfl
 |cons p T ih=>
  obtain⟨d,y⟩:=p
  simp only [u4]at h
  split at h
  · cases h
  · rename_i hm
    simp only [a0j]
    split
    · simp only [u4,hm];exact ih h
    · split
      · exact ih h
      · simp only [u4,hm];exact ih h
theorem b4d {j nt:Nat} {T:List (Nat×SV)} (h:u4 j T=true):u4 j (O8 nt T)=true:=by
 induction T with
 |nil=>rfl
 |cons p T ih=>
  obtain⟨d,y⟩:=p
  simp only [u4]at h
  split at h
  · cases h
  · rename_i hm
    simp only [O8]
    split
    · exact ih h
    · split
      · simp only [u4,hm];exact ih h
      · simp only [u4,hm];exact ih h
theorem b5d {j:Nat}:∀ {n:Nat} {l:List SV},M3 j l=false→u4 j (a4c n l)=true
 |_, [],_=>rfl
 |n,x::l,h=>by
  simp only [M3]at h
  split at h
  · cases h
  · rename_i hm
    simp only [a4c,u4,hm];exact b5d h
theorem c1d {j:Nat} {l r:List (Nat×SV)} (hl:u4 j l=true) (hr:u4 j r=true):u4 j (l++r)=true:=by
 induction l with
 |nil=>exact hr
 |cons p l ih=>
  obtain⟨d,y⟩:=p
  simp only [u4]at hl
  split at hl
  · cases hl
  · rename_i hm
    simp only [List.cons_append,u4,hm];exact ih hl
theorem c4U {X X':Cy} (h:X.tt=X'.tt) (st:Sy) (rs:List ResultVar):a1m X st rs=a1m X' st rs:=by
 induction rs with
 |nil=>rfl
 |cons r rs ih=>cases r<;>simp only [a1m,ih,h]
theorem c5.get {ok:Nat→Prop} {w:World} {R:Bool→Nat→Prop} {l:List D} {r:List SV} (h:c5 ok w R l r) {i:Nat} {x:D} (hx:l[i]?=some x):∃s,r[i]?=some s∧c6 ok w R x s:=by
 induction l generalizing r i with
 |nil=>simp at hx
 |cons d l ih=>cases r with
  |nil=>simp [c5]at h
  |cons y r=>
   simp only [c5]at h
   cases i with
   |zero=>simp at hx;subst hx;exact⟨y,rfl,h.1⟩
   |succ i=>simp at hx;simpa using ih h.2 hx
theorem b2Y {nt:Nat} (hn:nt≤1000000) {T:List (Nat×SV)} {d:Nat} {s:SV} (h:y0 (a0j nt T) d=some s):(∃e,d=1000000+e∧e<nt∧y0 T e=some s)∨(∃e,d=e+nt∧1000000≤e∧y0 T e=some s):=by
 rw [a2R]at h
 by_cases h1:d<1000000
 · rw [b7T hn _ h1]at h;cases h
 · by_cases h2:d<1000000+nt
   · obtain⟨e,rfl⟩:∃e,d=1000000+e:=⟨d-1000000,by omega⟩
     rw [b0Z hn _ (by omega)]at h
     exact .inl ⟨e,rfl,by omega,by rw [a2R];exact h⟩
   · obtain⟨e,rfl⟩:∃e,d=e+nt:=⟨d-nt,by omega⟩
     rw [b3N hn _ (by omega)]at h
     exact .inr ⟨e,rfl,by omega,by rw [a2R];exact h⟩
theorem b1S {nt:Nat} (hn:nt≤1000000) {T:List (Nat×D)} {d:Nat} {s:D} (h:s7 (a0j nt T) d=some s):(∃e,d=1000000+e∧e<nt∧s7 T e=some s)∨(∃e,d=e+nt∧1000000≤e∧s7 T e=some s):=by
 rw [a8g]at h
 by_cases h1:d<1000000
 · rw [b7T hn _ h1]at h;cases h
 · by_cases h2:d<1000000+nt
   · obtain⟨e,rfl⟩:∃e,d=1000000+e:=⟨d-1000000,by omega⟩
     rw [b0Z hn _ (by omega)]at h
     exact .inl ⟨e,rfl,by omega,by rw [a8g];exact h⟩
   · obtain⟨e,rfl⟩:∃e,d=e+nt:=⟨d-nt,by omega⟩
     rw [b3N hn _ (by omega)]at h
     exact .inr ⟨e,rfl,by omega,by rw [a8g];exact h⟩
theorem b4W {n d:Nat} {l:List SV} (h:d<n∨n+l.length≤d):y0 (a4c n l) d=none:=by
 induction l generalizing n with
 |nil=>rfl
 |cons x l ih=>
  simp only [List.length_cons]at h
  simp only [a4c,y0,Z1 (show n≠d by omega)]
  exact ih (by omega)
theorem b8n (hA:∀b,(w0.heap.size≤b∨b∈bor)→A b) (hP:POK X.P X.tt) {o:Oper} {Q:Exit→Act→World→Prop} {KY:Sy→Prop} {f:FuncId} {args:List D} {args':List SV} (hr:Rel (cx X w0 bor) st a w) (hs:Sim A st sy) (ha:c5 (okS A st) st.w (B1 st) args args')
 (h:M2 X f args o.dst sy KY) (hout:a2i (cx X w0 bor) st a o (.call f args')):o.wp X.P a w (LvY A (cx X w0 bor) st.H w KY) Q:=by
 obtain⟨nt,pl,ln,un,inl,fn,c,st0,st1,⟨hf,hb,hnt,hg,hl⟩,hsub,hbody,hk⟩:=h.ex
 have hg:nt≤1000000:=Nat.le_of_ble_eq_true hg
 have hl:args.length≤nt:=Nat.le_of_ble_eq_true hl
 have hlen:=ha.length
 have hXn:X.nt≤1000000:=hr.size.2
 have hXs:a.tmps.size=X.nt:=hr.size.1
 generalize hX':(⟨X.P,X.tt,nt,pl,ln,un, [],inl, []⟩:Cy)=X' at hbody
 have hP':X'.P=X.P:=by rw [←hX']
 have htt:X'.tt=X.tt:=by rw [←hX']
 have hn':X'.nt=nt:=by rw [←hX']
 have hd':X'.dfs= []:=by rw [←hX']
 generalize hsv:a.tmps.toList++X.sv=sv
 have hrc:Rel (cx { X' with sv:=sv} w0 bor) ⟨a4c 0 args'++a0j X.nt st.T,st.H,st.nk,st.w,st.lo,st.iv⟩ { tmps:=(i0 st.H args').toArray++Array.replicate (fn.ntmps-(i0 st.H args').toArray.size) undef,defers:= []} w:=by
  refine⟨⟨by simp [cx,hn',n9,←hlen];omega,by simp only [cx,hn'];exact hg⟩,fun d s hs=> ?_,by simp [cx,hd'],⟨hr.cls.fx,hr.cls.fx0,hr.cls.own,hr.cls.nd,hr.cls.lb,hr.cls.keys,hr.cls.lt⟩,hr.lo,hr.iv⟩
  simp only [a5u]at hs
  split at hs
  · rename_i s' hz
    cases hs
    obtain⟨_,h2⟩:=a2r (n:=0) hz
    simp only [Nat.sub_zero]at h2
    have hlt:d<args'.length:=(List.getElem?_eq_some_iff.1 h2).1
    right
    have h3:(i0 st.H args')[d]?=some (den st.H s):=by rw [b2Z,h2];rfl
    rw [P7,if_pos (show d<1000000 by omega),Array.getElem?_append_left (by simp [n9];exact hlt)]
    simpa using h3
  · rcases b2Y hXn hs with⟨e,rfl,he,hl'⟩|⟨e,rfl,he,hl'⟩
    · rcases hr.T e s hl' with h|h
      · exact .inl h
      · right
        rw [P7,if_pos (show e<1000000 by omega)]at h
        rw [P7,if_neg (by simp)]
        simp only [cx,←hsv]
        rw [show 1000000+e-N8=e by simp,List.getElem?_append_left (by simp [hXs];exact he)]
        simpa using h
    · rcases hr.T e s hl' with h|h
      · exact .inl h
      · right
        rw [P7,if_neg (show¬e<1000000 by omega)]at h
        rw [P7,if_neg (show¬e+X.nt<1000000 by omega)]
        simp only [cx,←hsv]
        rw [List.getElem?_append_right (by simp [hXs,N8];omega)]
        rw [show e+X.nt-N8-a.tmps.toList.length=e-N8 by simp [hXs,N8];omega]
        exact h
 have hsc:Sim A ⟨a4c 0 args'++a0j X.nt st.T,st.H,st.nk,st.w,st.lo,st.iv⟩ ⟨a2z 0 args++a0j X.nt sy.T,sy.H,sy.nk⟩:=by
  refine⟨fun d x hx=> ?_,hs.H,hs.nk,fun j hj=> ?_,hs.fH⟩
  · simp only [b6i]at hx
    split at hx
    · rename_i x' hz
      cases hx
      obtain⟨_,h2⟩:=a2q hz
      simp only [Nat.sub_zero]at h2
      obtain⟨s,h3,h4⟩:=ha.get h2
      exact .inr ⟨s,by simp only [a5u,a4w (Nat.zero_le _) (show args'[d-0]?=some s from h3)],h4⟩
    · rcases b1S hXn hx with⟨e,rfl,he,hl'⟩|⟨e,rfl,he,hl'⟩
      · rcases hs.T e x hl' with h|⟨s,h1,h2⟩
        · exact .inl h
        · refine .inr ⟨s, ?_,h2⟩
          simp only [a5u,b4W (n:=0) (l:=args') (d:=1000000+e) (.inr (by omega))]
          rw [a2R,b0Z hXn _ he,←a2R];exact h1
      · rcases hs.T e x hl' with h|⟨s,h1,h2⟩
        · exact .inl h
        · refine .inr ⟨s, ?_,h2⟩
          simp only [a5u,b4W (n:=0) (l:=args') (d:=e+X.nt) (.inr (by omega))]
          rw [a2R,b3N hXn _ he,←a2R];exact h1
  · exact c1d (b5d (ha.ment fun q=>b0k hj q)) (b7n (hs.fT j hj))
 obtain⟨st0',hs0,hr0,hb0⟩:=hsub.rel hA hsc hrc
 have hcall:Calls X.P f (i0 st.H args').toArray w fun e w'=>∃v,e= .returned v∧LvY A (cx X w0 bor) st.H w KY (a.put o.dst v) w':=by
  refine calls_of_wp hf hb (hP'▸hbody A w0 bor sv st0' _ w _ hA hs0 hr0 fun e st' sy' a' w' hp hk' hs' hlv=> ?_)
  obtain⟨T,H,nk⟩:=sy'
  have fin:(match a1m X' ⟨T,H,nk⟩ fn.results.toList with
   |some l=>W6 X ⟨O8 X.nt T,H,nk⟩ o.dst (c1e l) fun sy=>Q0 sy st1
   |none=>False)→a'.defers= []∧∃v,(results fn a'.tmps).run X.P w'= .ok v w'∧∃v1,Ending.returned v= .returned v1∧LvY A (cx X w0 bor) st.H w KY (a.put o.dst v1) w':=by
   intro hk'
   cases hres:a1m X' ⟨T,H,nk⟩ fn.results.toList with
   |none=>rw [hres]at hk';exact hk'.elim
   |some l=>
    rw [hres]at hk'
    simp only at hk'
    rw [c4U (X:=X') (X':= { X' with sv:=sv}) rfl]at hres
    obtain⟨l',h1,h2⟩:=a3I (w0:=w0) (bor:=bor) hs' hres
    have hrun:=a1U (X:=cx { X' with sv:=sv} w0 bor) (by simp only [cx];rw [hP',htt];exact hP.tt) hlv.rel h1
    have hrun:(results fn a'.tmps).run X.P w'= .ok (a8u st'.H l') w':=by rw [←hP'];exact hrun
    have hrd:∃s,c6 (okS A st') st'.w (B1 st') (c1e l) s∧den st'.H s=a8u st'.H l':=by
     match l,l',h2 with
     | [x], [s],h2=>exact⟨s,h2.1,rfl⟩
     | [], [],h2=>exact⟨.tup [],by simp only [c1e,c6];exact .inl ⟨[],rfl,trivial⟩,by simp [den,a8u]⟩
     |x::y::l,x'::y'::l',h2=>exact⟨.tup (x'::y'::l'),by simp only [c1e,c6];exact .inl ⟨_,rfl,h2⟩,by simp [den,a8u]⟩
     | [],_::_,h2=>simp [c5]at h2
     | [_], [],h2=>simp [c5]at h2
     | [_],_::_::_,h2=>simp [c5]at h2
     |_::_::_, [],h2=>simp [c5]at h2
     |_::_::_, [_],h2=>simp [c5]at h2
    obtain⟨s,hrd,hden⟩:=hrd
    refine⟨hlv.rel.dfs.trans hd',_,hrun,_,rfl, ?_⟩
    have hrl:=hlv.rel
    have hrr:Rel (cx X w0 bor) ⟨O8 X.nt st'.T,st'.H,st'.nk,st'.w,st'.lo,st'.iv⟩ a w':=by
     refine⟨hr.size,fun d s hl=> ?_,hr.dfs,⟨hrl.cls.fx,hrl.cls.fx0,hrl.cls.own,hrl.cls.nd,hrl.cls.lb,hrl.cls.keys,hrl.cls.lt⟩,hrl.lo,hrl.iv⟩
     rw [a2R]at hl
     by_cases c1:d<X.nt
     · rw [a7T hXn _ c1,←a2R]at hl
       rcases hrl.T _ _ hl with h|h
       · exact .inl h
       · right
         rw [P7,if_neg (by simp)]at h
         simp only [cx,←hsv]at h
         rw [show 1000000+d-N8=d by simp,List.getElem?_append_left (by simp [hXs];exact c1)]at h
         rw [P7,if_pos (show d<1000000 by omega)]
         simpa using h
     · by_cases c2:d<1000000
       · rw [b2K hXn _ c1 c2]at hl;cases hl
       · rw [a9h hXn _ (by omega),←a2R]at hl
         rcases hrl.T _ _ hl with h|h
         · exact .inl h
         · right
           rw [P7,if_neg (show¬d+X.nt<1000000 by omega)]at h
           simp only [cx,←hsv]at h
           rw [List.getElem?_append_right (by simp [hXs,N8];omega)]at h
           rw [show d+X.nt-N8-a.tmps.toList.length=d-N8 by simp [hXs,N8];omega]at h
           rw [P7,if_neg c2];exact h
    have hsr:Sim A ⟨O8 X.nt st'.T,st'.H,st'.nk,st'.w,st'.lo,st'.iv⟩ ⟨O8 X.nt T,H,nk⟩:=by
     refine⟨fun d x hx=> ?_,hs'.H,hs'.nk,fun j hj=>b4d (hs'.fT j hj),hs'.fH⟩
     simp only at hx
     rw [a8g]at hx
     by_cases c1:d<X.nt
     · rw [a7T hXn _ c1,←a8g]at hx
       rcases hs'.T _ _ hx with h|⟨s,h1,h2⟩
       · exact .inl h
       · exact .inr ⟨s,by simp only;rw [a2R,a7T hXn _ c1,←a2R];exact h1,h2⟩
     · by_cases c2:d<1000000
       · rw [b2K hXn _ c1 c2]at hx;cases hx
       · rw [a9h hXn _ (by omega),←a8g]at hx
         rcases hs'.T _ _ hx with h|⟨s,h1,h2⟩
         · exact .inl h
         · exact .inr ⟨s,by simp only;rw [a2R,a9h hXn _ (by omega),←a2R];exact h1,h2⟩
    obtain⟨st2,⟨sy2,k1,k2⟩,k3,k4⟩:=a2F hrr (I7 (w0:=w0) (bor:=bor) hk' hsr hrd) (v:=a8u st'.H l') (.inr hden.symm)
    obtain⟨st3,hs3,hr3,hb3⟩:=k1.rel hA k2 k3
    refine⟨st3,st1,hk,hs3,hr3,hlv.fx.wide fun b hb=>hb0 b hb,fun b hb=> ?_⟩
    have:=hb3 b hb
    rw [k4]at this
    rcases hlv.bs b this with h|h
    · exact .inl (hb0 b h)
    · exact .inr h
  cases e with
  |normal=>rw [hP'];exact fin hk'
  |ret=>rw [hP'];exact fin hk'
  |exit j=>exact hk'.elim
  |goto l=>exact hp.elim
  |panic c=>exact hp.elim
  |outgrown=>exact hp.elim
 have hbody:=a0X hcall fun e w' ⟨v,he,_⟩=>⟨v,he⟩
 unfold Oper.wp
 rw [show(execOp a.eval o).run X.P w=_ from hout w hbody]
 simp only [Oper.upon]
 refine hcall.mono fun e w' ⟨v,he,hh⟩=> ?_
 subst he
 exact hh
theorem c2C (hA:∀b,(w0.heap.size≤b∨b∈bor)→A b) (hP:POK X.P X.tt) {o:Oper} {Q:Exit→Act→World→Prop} {KY:Sy→Prop} (hy:y1 X sy o.op (a7n X true sy o.dst KY)) (hs:Sim A st sy) (hr:Rel (cx X w0 bor) st a w):o.wp X.P a w (LvY A (cx X w0 bor) st.H w KY) Q:=by
 have hev:=b9j (X:=X) (w0:=w0) (bor:=bor) (st:=st) (K:=fun out=>∃oy,a8W st.H (okS A st) st.w (B1 st) oy out∧a7n X true sy o.dst KY oy) (fun oy out h1 h2=>⟨oy,h1,h2⟩) (zOK hP) hs hy
 obtain⟨out,⟨oy,hro,hfin⟩,hout⟩:=b5D (X:=cx X w0 bor) hP.tt hP.ng hr.ev (a4m hr.cls) hev
 by_cases hcall:∃f args,out= .call f args
 · obtain⟨f,args',rfl⟩:=hcall
   cases oy<;>try exact hro.elim
   obtain⟨rfl,hargs⟩:=hro
   simp only [a7n]at hfin
   split at hfin
   · exact b8n hA hP hr hs hargs hfin hout
   · exact c0Z hA hr hs hargs hfin hout
 · have hf:=a5Q (w0:=w0) (bor:=bor) hA hfin hro hs (.inr fun f args e=>hcall ⟨f,args,e⟩)
   refine Oper.wp_mono (fun a' w' hl=> ?_) (c3M (X:=cx X w0 bor) (Q:=Q) hP.tt hf hout hr)
   obtain⟨st2,⟨sy2,hK2,hs2⟩,hr2,hf0,hb0⟩:=hl
   exact⟨st2,sy2,hK2,hs2,hr2,hf0.wide (fun b h=>c2G b h),hb0.bs⟩
theorem b0u (hA:∀b,(w0.heap.size≤b∨b∈bor)→A b) (hP:POK X.P X.tt) {ops:Array Oper} {Q:Exit→Act→World→Prop}:∀(rest:List Oper) (st:St) (sy:Sy) (a:Act) (w:World) (K:Sy→Prop),b6F X ops.toList rest sy K→Sim A st sy→Rel (cx X w0 bor) st a w→
 (∀st' sy' a' w',K sy'→Sim A st' sy'→Lv (cx X w0 bor) st.H w st' a' w'→Q .normal a' w')→wpList X.P ops Q rest a w
 | [],st,sy,a,w,K,h,hs,hr,hQ=>hQ st sy a w h hs (Lv.refl hr)
 |o::rest,st,sy,a,w,K,h,hs,hr,hQ=>by
  simp only [b6F]at h
  have hg:=b0T (yes:=fun st'=>∃sy',Sim A st' sy'∧y1 X sy' o.op (a7n X true sy' o.dst fun st=>b6F X ops.toList rest st K)) (no:=fun st'=>∃sy',Sim A st' sy'∧W6 X sy' o.dst .und fun st=>b6F X ops.toList rest st K) h hs (fun st' sy' h1 h2=>⟨sy',h1,h2⟩) (fun st' sy' h1 h2=>⟨sy',h1,h2⟩)
  obtain⟨st1,hsm,_,hr1,hg⟩:=b3I (X:=cx X w0 bor) hg hr
  rw [←hsm.H]at hQ
  rcases hg with⟨hw,sy1,hs1,hy⟩|⟨hw,sy1,hs1,hn⟩
  · simp only [wpList,hw,if_true]
    left
    exact Oper.wp_mono (fun a' w' ⟨st2,sy2,hK2,hs2,hl2⟩=>b0u hA hP rest st2 sy2 a' w' K hK2 hs2 hl2.rel fun st' sy' a'' w'' hK' hs' hlv=>hQ st' sy' a'' w'' hK' hs' (Lv.trans hl2 hlv)) (c2C hA hP hy hs1 hr1)
  · simp only [wpList,hw]
    obtain⟨st2,⟨sy2,hK2,hs2⟩,hr2,hH2⟩:=a2F hr1 (I7 (w0:=w0) (bor:=bor) (s:= .v undef) hn hs1 (by simp only [c6])) (v:=undef) (.inr rfl)
    exact b0u hA hP rest st2 sy2 (a.put o.dst undef) w K hK2 hs2 hr2 fun st' sy' a'' w'' hK' hs' hlv=>hQ st' sy' a'' w'' hK' hs' (Lv.trans ⟨hr2,Fx.refl _ _,fun b hb=>by rw [hH2]at hb;exact .inl hb⟩ hlv)
theorem Sim.chA {A A':Nat→Prop} {st:St} {sy:Sy} (h:∀b,okS A st b→okS A' st b) (hs:Sim A st sy):Sim A' st sy:=
 ⟨fun d x hx=>(hs.T d x hx).imp id fun⟨s,h1,h2⟩=>⟨s,h1,c6.mono (fun b hb=>⟨h b hb,rfl⟩) (fun _ _ h=>h) _ _ h2⟩,
  fun k e he=>by obtain⟨e',h1,h2⟩:=hs.H k e he;exact⟨e',h1,a3R.mono (fun b hb=>⟨h b hb,rfl⟩) (fun _ _ h=>h) h2⟩,hs.nk,hs.fT,hs.fH⟩
theorem c3m {iv:List (Nat×Nat)} {b:Nat} (h:a6i iv b):¬∃p,p∈iv∧p.1≤b∧b<p.2:=by
 induction iv with
 |nil=>rintro⟨p,hp,_⟩;cases hp
 |cons q iv ih=>
  obtain⟨n,m⟩:=q
  simp only [a6i]at h
  rintro⟨p,hp,h1,h2⟩
  rcases List.mem_cons.1 hp with rfl|hp
  · rcases h.1 with h|h<;>simp only at h1 h2<;>omega
  · exact ih h.2 ⟨p,hp,h1,h2⟩
def a8M (E:List Nat):Nat→List (Nat×Nat)
 |0=> []
 |n+1=>match P8 n E with|true=>a8M E n|false=>(n,n+1)::a8M E n
theorem b2z {E:List Nat} {b:Nat} (hb:b∈E):∀n,a6i (a8M E n) b
 |0=>trivial
 |n+1=>by
  simp only [a8M]
  split
  · exact b2z hb n
  · rename_i h
    refine⟨?_,b2z hb n⟩
    have:b≠n:=fun e=>by rw [e]at hb;rw [K2.2 hb]at h;cases h
    omega
theorem b3n {E:List Nat}:∀n p,p∈a8M E n→p.1≤p.2∧p.2≤n
 |0,p,h=>by cases h
 |n+1,p,h=>by
  simp only [a8M]at h
  split at h
  · have:=b3n n p h;omega
  · rcases List.mem_cons.1 h with rfl|h
    · simp
    · have:=b3n n p h;omega
theorem b5s {E:List Nat} {b:Nat} (hb:b∉E):∀n,b<n→∃p,p∈a8M E n∧p.1≤b∧b<p.2
 |0,h=>by omega
 |n+1,h=>by
  simp only [a8M]
  by_cases e:b=n
  · subst e
    split
    · rename_i hm;exact absurd (K2.1 hm) hb
    · exact⟨(b,b+1),List.mem_cons_self,Nat.le_refl _,Nat.lt_succ_self _⟩
  · obtain⟨p,h1,h2⟩:=b5s hb n (by omega)
    split
    · exact⟨p,h1,h2⟩
    · exact⟨p,List.mem_cons_of_mem _ h1,h2⟩
theorem b7j {ops:List Oper} {l:List Nat} {T:List (Nat×D)} {d:Nat} {x:D} (h:s7 (a2Y .bad ops l T) d=some x) (hx:x≠ .bad):s7 T d=some x∧∀(T':List (Nat×SV)),y0 (a2Y .bad ops l T') d=y0 T' d:=by
 induction l with
 |nil=>exact⟨h,fun _=>rfl⟩
 |cons i l ih=>
  simp only [a2Y]at h⊢
  split at h
  · split at h
    · rename_i o ho _ _ d' ha hd
      simp only [s7]at h
      cases hb:Nat.beq d' d with
      |true=>rw [hb]at h;cases h;exact absurd rfl hx
      |false=>
       rw [hb]at h
       obtain⟨h1,h2⟩:=ih h
       exact⟨h1,fun T'=>by simp only [y0,hb];exact h2 T'⟩
    · exact ih h
  · exact ih h
theorem b7L {j:Nat} {ops:List Oper} {l:List Nat} {T:List (Nat×SV)} (h:u4 j T=true):u4 j (a2Y .bad ops l T)=true:=by
 induction l with
 |nil=>exact h
 |cons i l ih=>
  simp only [a2Y]
  split
  · split
    · simp only [u4,ment];exact ih
    · exact ih
  · exact ih
theorem c5C (hA:∀b,(w0.heap.size≤b∨b∈bor)→A b) (hP:POK X.P X.tt) {o:Oper} {Q:Exit→Act→World→Prop} {j:Nat} {S:List Nat} {KY:Sy→Prop} (hy:y1 X sy o.op (b8c X (j::S) sy o.dst KY)) (hs:Sim A st sy) (hr:Rel (cx X w0 bor) st a w):o.wp X.P a w (LvK A (cx X w0 bor) st.H w KY) Q:=by
 have hev:=b9j (X:=X) (w0:=w0) (bor:=bor) (st:=st) (K:=fun out=>∃oy,a8W st.H (okS A st) st.w (B1 st) oy out∧b8c X (j::S) sy o.dst KY oy) (fun oy out h1 h2=>⟨oy,h1,h2⟩) (zOK hP) hs hy
 obtain⟨out,⟨oy,hro,hfin⟩,hout⟩:=b5D (X:=cx X w0 bor) hP.tt hP.ng hr.ev (a4m hr.cls) hev
 cases oy<;>try exact hfin.elim
 cases out<;>try exact hro.elim
 obtain⟨rfl,hargs⟩:=hro
 simp only [b8c]at hfin
 split at hfin
 · exact b2R hA hr hs hargs (by assumption) hfin hout
 · exact hfin.elim
theorem c5D (hA:∀b,(w0.heap.size≤b∨b∈bor)→A b) (hP:POK X.P X.tt) {o:Oper} {ops:List Oper} {l S:List Nat} {KY:Sy→Prop} {K:St→Prop}
 (hy:y1 X sy o.op (b8c X S sy o.dst fun st=>match st with|⟨T,H,nk⟩=>KY ⟨a2Y .bad ops l T,H,nk⟩)) (hs:Sim A st sy)
 (hK:∀st' sy',KY sy'→Sim A st' sy'→K st'):c5h (cx X w0 bor) o (kpS S) st fun st=>match st with|⟨T,H,nk,w,lo,iv⟩=>K ⟨a2Y .bad ops l T,H,nk,w,lo,iv⟩:=by
 intro E a w hr hE
 have hc:=hr.cls
 have hs':Sim (fun b=>A b∧b∉E) (now st w) sy:=by
  have:=hs.chA (A':=fun b=>A b∧b∉E) fun b hb=>⟨⟨hb.1.1,hb.1.2,fun he=>by
   obtain⟨_,h1,h2,_⟩:=hE b he
   rcases hb.1.1 with h|h
   · omega
   · exact c3m h2 h⟩,hb.2⟩
  exact this.now hc
 have hr':Rel (cx X w (bs st.H)) (now st w) a w:=
  ⟨hr.size,hr.T,hr.dfs,⟨Fx.refl _ _,Fx.refl _ _,hc.own,hc.nd,fun b hb=> .inl hb,hc.keys,hc.lt⟩,Nat.le_refl _,by simp [now]⟩
 have hA':∀b,(w.heap.size≤b∨b∈bs st.H)→A b∧b∉E:=fun b hb=>by
  refine⟨?_,fun he=> ?_⟩
  · rcases hb with hb|hb
    · exact hA b (.inl (Nat.le_trans hc.fx0.size hb))
    · exact hA b (hc.lb b hb).symm
  · obtain⟨h0,_,_,h3⟩:=hE b he
    rcases hb with hb|hb
    · omega
    · exact h0 hb
 obtain⟨N,hN⟩:∃N:Act→World→Prop,N=fun a' w'=>∃st2 sy2,(match sy2 with|⟨T,H,nk⟩=>KY ⟨a2Y .bad ops l T,H,nk⟩)∧Sim (fun b=>A b∧b∉E) st2 sy2∧Lv (cx X w (bs st.H)) (now st w).H w st2 a' w'∧(kpS S=true→(∀i,i<w.heap.size→w'.heap[i]?=w.heap[i]?)∧KB st.H w st2.H):=⟨_,rfl⟩
 have hwp:o.wp X.P a w N (fun _ _ _=>False):=by
  rw [hN]
  cases S with
  |nil=>exact Oper.wp_mono (fun a' w' ⟨st2,sy2,g1,g2,g3⟩=>⟨st2,sy2,g1,g2,g3,fun h=>by cases h⟩) (c2C (Q:=fun _ _ _=>False) hA' hP hy hs' hr')
  |cons j S=>exact Oper.wp_mono (fun a' w' ⟨st2,sy2,g1,g2,g3,g4⟩=>⟨st2,sy2,g1,g2,g3,fun _=>g4⟩) (c5C (Q:=fun _ _ _=>False) hA' hP hy hs' hr')
 rcases a9S (X:=cx X w (bs st.H)) (Q:=fun _ _ _=>False) (a:=a) (A:=a) (next:=N) rfl hwp
  (fun _ _ h=>by rw [hN]at h;obtain⟨_,_,_,_,hl,_⟩:=h;exact hl.rel.dfs.trans hr.dfs.symm)with h|⟨_,_,h⟩
 case inr=>exact h.elim
 refine Oper.wp_mono (fun a' w' hh=> ?_) h
 rw [hN]at hh
 obtain⟨v,hv,st2,sy2,hk,hs2,hl,hkp⟩:=hh
 have hrl:=hl.rel
 have hs3:=hs2.now hrl.cls
 obtain⟨T2,H2,nk2,ws2,lo2,iv2⟩:=st2
 obtain⟨T,H,nk⟩:=sy2
 have hbs2:∀b,b∈bs H2→b∈bs st.H∨w.heap.size≤b:=hl.bs
 have hok:∀b,okS (fun b=>A b∧b∉E) (now ⟨T2,H2,nk2,ws2,lo2,iv2⟩ w') b→okS A ⟨T2,H2,nk2,w',0,a8M E w'.heap.size⟩ b∧w'.heap[b]?=w'.heap[b]?:=fun b hb=>
  ⟨⟨⟨.inr (b5s hb.1.2.2 _ hb.2.1),hb.1.2.1⟩,hb.2⟩,rfl⟩
 refine⟨v,hv,⟨T2,H2,nk2,w',0,a8M E w'.heap.size⟩, ?_,⟨⟨by subst hv;exact hrl.size,fun d s hd=>by subst hv;exact hrl.T d s hd,by subst hv;exact hrl.dfs,
  ⟨Fx.refl _ _,Fx.trans hc.fx0 hl.fx (fun _ h=>h) fun b hb=>hc.lb b hb,hrl.cls.own,hrl.cls.nd,fun b hb=> ?_,hrl.cls.keys,hrl.cls.lt⟩,Nat.zero_le _,fun p hp=>b3n _ p hp⟩,hl.fx,hl.bs⟩,fun b hb=>⟨Nat.zero_le _,b2z hb _⟩,hkp⟩
 · simp only at hk⊢
   refine hK _ _ hk ⟨fun d x hx=> ?_,fun k e he=> ?_,hs3.nk,fun j hj=>b7L (hs3.fT j hj),hs3.fH⟩
   · by_cases hbad:x= .bad
     · exact .inl hbad
     · obtain⟨g1,g2⟩:=b7j hx hbad
       rcases hs3.T d x g1 with h|⟨s,h1,h2⟩
       · exact .inl h
       · exact .inr ⟨s,by simp only [g2];exact h1,c6.mono hok (fun _ _ h=>h) _ _ h2⟩
   · obtain⟨e',h1,h2⟩:=hs3.H k e he
     exact⟨e',h1,a3R.mono hok (fun _ _ h=>h) h2⟩
 · rcases hbs2 b hb with h|h
   · exact hc.lb b h
   · exact .inr (Nat.le_trans hc.fx0.size h)
theorem a2m (hA:∀b,(w0.heap.size≤b∨b∈bor)→A b) (hP:POK X.P X.tt) {ops:List Oper}:∀(p:PT) {st:St} {sy:Sy} {pr:List (Nat×Option Nat)} {K:Sy→Prop},a6X X ops p sy pr K→Sim A st sy→a3A (cx X w0 bor) ops p st pr fun st'=>∃sy',K sy'∧Sim A st' sy'
 | .nil,st,sy,pr,K,h,hs=>⟨sy,h,hs⟩
 | .fork p q,st,sy,pr,K,h,hs=>⟨a2m hA hP p h.1 hs,a2m hA hP q h.2 hs⟩
 | .op i S fl rest,st,sy,pr,K,h,hs=>by
  simp only [a6X]at h
  simp only [a3A]
  split at h
  · rename_i o ho
    rw [ho]
    refine b0T h hs (fun st' sy' h1 h2=> ?_) (fun st' sy' h1 h2=> ?_)
    · have plain:y1 X sy' o.op (b7f X i S fl pr o sy' fun st pr=>a6X X ops rest st pr K)→ev1 (cx X w0 bor) st' o.op (b7u (cx X w0 bor) i S fl pr o st' fun st pr=>a3A (cx X w0 bor) ops rest st pr fun st'=>∃sy',K sy'∧Sim A st' sy'):=fun h2=>
       b9j (X:=X) (w0:=w0) (bor:=bor) (KY:=b7f X i S fl pr o sy' fun st pr=>a6X X ops rest st pr K) (fun oy out hro hk=>c0t hA hk hro h1 fun st2 sy2 pr hs2 hk2=>a2m hA hP rest hk2 hs2) (zOK hP) h1 h2
      cases hc:a1X o with
      |false=>simp only [b4v,hc]at h2;simp only [b1A,hc];exact plain h2
      |true=>
       cases fl with
       |false=>simp only [b4v,hc]at h2;simp only [b1A,hc];exact plain h2
       |true=>
        simp only [b4v,hc]at h2
        simp only [b1A,hc]
        exact c5D (KY:=fun st=>a6X X ops rest st pr K) (K:=fun st'=>a3A (cx X w0 bor) ops rest st' pr fun st'=>∃sy',K sy'∧Sim A st' sy') hA hP h2 h1 fun st2 sy2 hk hs2=>a2m hA hP rest hk hs2
    · exact R7 (I7 (w0:=w0) (bor:=bor) (s:= .v undef) h2 h1 (by simp only [c6])) fun st2 ⟨sy2,hk2,hs2⟩=>a2m hA hP rest hk2 hs2
  · exact h.elim
end
end Go.Sx
namespace Go.Sx
open Go Go.RowKit
mutual
theorem b8l {ok:Nat→Prop} {w:World}:∀(x y:D) (v:Value),leD x y→Rep ok w x v→Rep ok w y v
 | .v x,y,v,h,hr=>by
  simp only [leD]at h
  rcases h with rfl|⟨rfl,z,rfl⟩
  · exact hr
  · simp only [Rep]at hr⊢
    rw [hr.1]
    exact⟨none,0,rfl,Nat.le_refl _,by simp,by simp,rfl, .inl rfl⟩
 | .agg l,y,v,h,hr=>by
  simp only [leD]at h
  obtain⟨r,rfl,h⟩:=h
  simp only [Rep]at hr⊢
  obtain⟨a,h1,h2,h3⟩:=hr
  exact⟨a,h1,b2o l r _ h h2,b6u l r h h3⟩
 | .tup l,y,v,h,hr=>by
  simp only [leD]at h
  obtain⟨r,rfl,h⟩:=h
  simp only [Rep]at hr⊢
  obtain⟨a,h1,h2⟩:=hr
  exact⟨a,h1,b2o l r _ h h2⟩
 | .lst _ _ _,y,v,h,hr=>by simp only [leD]at h;subst h;exact hr
 | .ptr _ _,y,v,h,hr=>by simp only [leD]at h;subst h;exact hr
 | .mp _,y,v,h,hr=>by simp only [leD]at h;subst h;exact hr
 | .fn _ _ _,y,v,h,hr=>by simp only [leD]at h;subst h;exact hr
 | .own _ _,_,_,_,hr=>by simp [Rep]at hr
 | .ownx _ _,_,_,_,hr=>by simp [Rep]at hr
 | .row _ _,_,_,_,hr=>by simp [Rep]at hr
 | .elr _ _ _ _,_,_,_,hr=>by simp [Rep]at hr
 | .osl _ _ _ _ _,_,_,_,hr=>by simp [Rep]at hr
 | .und,_,_,_,hr=>by simp [Rep]at hr
 | .bad,_,_,_,hr=>by simp [Rep]at hr
theorem b2o {ok:Nat→Prop} {w:World}:∀(l r:List D) (v:List Value),a4d l r→d6 ok w l v→d6 ok w r v
 | [], [],v,_,hr=>hr
 |x::l,y::r,v::vs,h,hr=>by
  simp only [a4d]at h
  simp only [d6]at hr⊢
  exact⟨b8l x y v h.1 hr.1,b2o l r vs h.2 hr.2⟩
 |_::_,_::_, [],_,hr=>by simp [d6]at hr
 | [],_::_,_,h,_=>by simp [a4d]at h
 |_::_, [],_,h,_=>by simp [a4d]at h
end
mutual
theorem c9h:∀(x:D),leD x x
 | .v x=>by simp only [leD];exact .inl trivial
 | .agg l=>by simp only [leD];exact⟨l,rfl,a4d.refl l⟩
 | .tup l=>by simp only [leD];exact⟨l,rfl,a4d.refl l⟩
 | .lst _ _ _=>by simp only [leD]
 | .ptr _ _=>by simp only [leD]
 | .mp _=>by simp only [leD]
 | .fn _ _ _=>by simp only [leD]
 | .own _ _=>by simp only [leD]
 | .ownx _ _=>by simp only [leD]
 | .row _ _=>by simp only [leD]
 | .elr _ _ _ _=>by simp only [leD]
 | .osl _ _ _ _ _=>by simp only [leD]
 | .und=>by simp only [leD]
 | .bad=>by simp only [leD]
theorem a4d.refl:∀(l:List D),a4d l l
 | []=>trivial
 |x::l=>⟨c9h x,a4d.refl l⟩
end
theorem d7.le {P:Program} {f:FuncId} {args args':List D} {Q:D→Prop} (h:d7 P f args' Q) (hl:a4d args args'):d7 P f args Q:=fun ok w vs hr hok=>h ok w vs (b2o _ _ _ hl hr) hok
theorem d7.mono {P:Program} {f:FuncId} {args:List D} {Q Q':D→Prop} (h:d7 P f args Q) (hq:∀r,Q r→Q' r):d7 P f args Q':=fun ok w vs hr hok=>
 (h ok w vs hr hok).mono fun _ _ ⟨v,r,h1,h2,h3⟩=>⟨v,r,h1,hq r h2,h3⟩
section
variable {A : Nat → Prop} {X : Cy} {w0 : World} {bor : List Nat} {st : St} {sy : Sy} {a : Act} {w : World}
theorem a3M (hA:∀b,(w0.heap.size≤b∨b∈bor)→A b) (hP:POK X.P X.tt) (c:Code):∀(st:St) (sy:Sy) (a:Act) (w:World) (K:Exit→Sy→Prop) (Q:Exit→Act→World→Prop),S1 X c sy K→Sim A st sy→Rel (cx X w0 bor) st a w→
 (∀e st' sy' a' w',plain e→K e sy'→Sim A st' sy'→Lv (cx X w0 bor) st.H w st' a' w'→Q e a' w')→c.wp X.P Q a w:=by
 induction c with
 |skip=>exact fun st sy a w K Q h hs hr hQ=>wp_skip (hQ .normal st sy a w trivial h hs (Lv.refl hr))
 |label l=>exact fun st sy a w K Q h hs hr hQ=>wp_label (hQ .normal st sy a w trivial h hs (Lv.refl hr))
 |exit id=>exact fun st sy a w K Q h hs hr hQ=>wp_exit (hQ (.exit id) st sy a w trivial h hs (Lv.refl hr))
 |ret=>exact fun st sy a w K Q h hs hr hQ=>wp_ret (hQ .ret st sy a w trivial h hs (Lv.refl hr))
 |region id ops draw=>
  intro st sy a w K Q h hs hr hQ
  cases draw with
  |false=>exact wp_region_list (b0u hA hP ops.toList _ _ a w _ h hs hr fun st' sy' a' w' hk hs' hl=>hQ .normal st' sy' a' w' trivial hk hs' hl)
  |true=>
   simp only [S1]at h
   split at h
   · obtain⟨T,H,nk⟩:=sy
     obtain⟨T',H',nk',ws,lo,iv⟩:=st
     have hx:=a2m (w0:=w0) (bor:=bor) hA hP _ h.2 (b3l (ops:=ops.toList) hs)
     exact wp_region_any hP.mix (a3O (X:=cx X w0 bor) hP hr h.1 hx fun st' a' w' ⟨sy',hk,hs'⟩ hl=>hQ .normal st' sy' a' w' trivial hk hs' hl)
   · exact h.elim
 |seq x y ihx ihy=>
  intro st sy a w K Q h hs hr hQ
  refine wp_seq (ihx st sy a w _ _ h hs hr fun e st1 sy1 a1 w1 hp hk hs1 hl=> ?_)
  cases e with
  |normal=>exact ihy st1 sy1 a1 w1 K Q hk hs1 hl.rel fun e st2 sy2 a2 w2 hp hk2 hs2 hl2=>hQ e st2 sy2 a2 w2 hp hk2 hs2 (Lv.trans hl hl2)
  |exit id=>exact hQ _ _ _ _ _ hp hk hs1 hl
  |ret=>exact hQ _ _ _ _ _ hp hk hs1 hl
  |goto l=>exact hp.elim
  |panic c=>exact hp.elim
  |outgrown=>exact hp.elim
 |cond c x y ihx ihy=>
  intro st sy a w K Q h hs hr hQ
  simp only [S1]at h
  split at h
  · rename_i b hc
    obtain⟨s,h1,h2,_⟩:=j5 hs hc
    have:=h2.sc;subst this
    have hb:a.eval c= .bool b:=by simpa [den]using (hr.ev c _ h1).2
    cases b with
    |true=>exact wp_cond_true hb (ihx st sy a w K Q h hs hr hQ)
    |false=>exact wp_cond_false hb (ihy st sy a w K Q h hs hr hQ)
  · exact h.elim
 |block id c ih=>
  intro st sy a w K Q h hs hr hQ
  refine wp_block (ih st sy a w _ _ h hs hr fun e st1 sy1 a1 w1 hp hk hs1 hl=> ?_)
  cases e with
  |normal=>exact hQ _ _ _ _ _ hp hk hs1 hl
  |exit j=>
   simp only [Exit.inBlock]
   simp only at hk
   split at hk
   · rename_i hb
     rw [if_pos (w4 hb)]
     exact hQ .normal _ _ _ _ trivial hk hs1 hl
   · rename_i hb
     rw [if_neg (a2V hb)]
     exact hQ _ _ _ _ _ hp hk hs1 hl
  |ret=>exact hQ _ _ _ _ _ hp hk hs1 hl
  |goto l=>exact hp.elim
  |panic c=>exact hp.elim
  |outgrown=>exact hp.elim
 |scope c ih=>
  intro st sy a w K Q h hs hr hQ
  refine wp_scope_straight (ih st sy a w K _ h hs hr fun e st1 sy1 a1 w1 hp hk hs1 hl=> ?_)
  cases e with
  |normal=>exact hQ _ _ _ _ _ hp hk hs1 hl
  |exit j=>exact hQ _ _ _ _ _ hp hk hs1 hl
  |ret=>exact hQ _ _ _ _ _ hp hk hs1 hl
  |goto l=>exact hp.elim
  |panic c=>exact hp.elim
  |outgrown=>exact hp.elim
 |loop c ih=>
  intro st sy a w K Q h hs hr hQ
  have h:q8 (S1 X c) sy K:=h
  obtain⟨α,f,inv,μ,⟨x0,hsub,hinv⟩,hround⟩:=h.ex
  obtain⟨st0,hs0,hr0,hb0⟩:=hsub.rel hA hs hr
  refine wp_loop_ghost (fun n a1 w1=>∃x,μ x=n∧inv x∧∃st1,Sim A st1 (f x)∧Lv (cx X w0 bor) st.H w st1 a1 w1) (μ x0) ⟨x0,rfl,hinv,st0,hs0,hr0,Fx.refl _ _,fun b hb=> .inl (hb0 b hb)⟩ ?_
  rintro n a1 w1 ⟨x,rfl,hinv1,st1,hs1,hlv⟩
  refine ih st1 (f x) a1 w1 _ _ (hround x hinv1) hs1 hlv.rel fun e st2 sy2 a2 w2 hp hk hs2 hl=> ?_
  have hl2:=Lv.trans hlv hl
  cases e with
  |normal=>
   obtain⟨y,hsb,hi,hlt⟩:=hk
   obtain⟨st3,hs3,hr3,hb3⟩:=hsb.rel hA hs2 hl2.rel
   exact⟨μ y,hlt,y,rfl,hi,st3,hs3,hr3,hl2.fx,fun b hb=>hl2.bs b (hb3 b hb)⟩
  |exit j=>exact hQ _ _ _ _ _ hp hk hs2 hl2
  |ret=>exact hQ _ _ _ _ _ hp hk hs2 hl2
  |goto l=>exact hp.elim
  |panic c=>exact hp.elim
  |outgrown=>exact hp.elim
 |_=>intro st sy a w K Q h hs hr hQ;exact h.elim
theorem b0g (hA:∀b,(w0.heap.size≤b∨b∈bor)→A b) {Qr:D→Prop} {r:D} {s:SV} (h:a2n sy r Qr) (hs:Sim A st sy) (hr:Rel (cx X w0 bor) st a w) (hrel:c6 (okS A st) st.w (B1 st) r s):
 ∃r',Qr r'∧Rep (fun b=>A b∧b<w.heap.size) w r' (den st.H s):=by
 have hc:=hr.now.cls
 have hs0:=hs.now hr.cls
 have h0:c6 (okS A (now st w)) w (B1 (now st w)) r s:=c6.mono (a5G hr.cls) (fun _ _ h=>h) _ _ hrel
 unfold a2n at h
 split at h
 · rename_i hcl
   obtain⟨r',hle,hq⟩:=h.ex
   exact⟨r',hq,b8l _ _ _ hle (Rep.mono (fun b hb=>⟨⟨hb.1.2,hb.2.1⟩,rfl⟩) _ _ (a4s (H:=st.H) _ _ h0 hcl))⟩
 · split at h
   · rename_i sy' r1 hfz
     split at h
     · rename_i hcl
       obtain⟨r',hle,hq⟩:=h.ex
       obtain⟨st1,l1,c1,a1,s1,b1,o1,g1,g2⟩:=a6a (Xx:=cx X w0 bor) hA _ hc ⟨rfl,rfl,rfl⟩ hs0 (l:= [r]) (r:= [s]) (by exact⟨h0,trivial⟩) hfz
       obtain⟨s1',rfl,g3⟩:=g1.one1
       simp only [i0,List.cons.injEq,and_true]at g2
       have g2:den st1.H s1'=den st.H s:=g2
       refine⟨r',hq,b8l _ _ _ hle ?_⟩
       rw [←g2]
       exact Rep.mono (fun b hb=>⟨⟨hb.1.2,by have:=hb.2.1;rw [a1.1]at this;exact this⟩,rfl⟩) _ _ (a4s (H:=st1.H) _ _ g3 hcl)
     · exact h.elim
   · exact h.elim
end
theorem c5q {X:Cy} (hP:POK X.P X.tt) {f:FuncId} {fn:Func} {c:Code} (args:List D) {Qr:D→Prop} (hf:X.P.funcs[f]?=some fn) (hb:fn.body=some c) (hn:X.nt=fn.ntmps) (hl:args.length≤fn.ntmps)
 (h:S1 X c ⟨a2z 0 args, [],0⟩ (b9z X fn.results.toList Qr)) (h0:X.dfs= []:=by rfl) (hg:fn.ntmps≤N8:=by exact Nat.le_of_ble_eq_true rfl):d7 X.P f args Qr:=by
 intro ok w vl hrep hok
 have hA:∀b,(w.heap.size≤b∨b∈([]:List Nat))→(fun b=>b<w.heap.size→ok b) b:=fun b hb h=>by
  rcases hb with hb|hb
  · omega
  · cases hb
 refine calls_of_wp hf hb (a3M (A:=fun b=>b<w.heap.size→ok b) (w0:=w) (bor:= []) hA hP c ⟨a4c 0 (vs vl), [],0,w,w.heap.size, []⟩ ⟨a2z 0 args, [],0⟩ _ _ _ _ h ?_ ?_ fun e st' sy' a' w' hp hk hs' hlv=> ?_)
 · refine⟨fun d x hx=> ?_,fun k e he=>by simp [j3]at he,rfl,fun j _=>a3o,fun _ _=>rfl⟩
   obtain⟨_,h2⟩:=a2q hx
   obtain⟨y,h3,h4⟩:=hrep.get h2
   right
   refine⟨.v y,a4w (Nat.zero_le _) ?_,Rep.rel _ _ (Rep.mono (fun b hb=>⟨⟨⟨.inl (hok b hb),fun _=>hb⟩,hok b hb,fun c hc=>by simp [bs]at hc⟩,rfl⟩) _ _ h4)⟩
   have:∀(l:List Value) (j:Nat),(vs l)[j]?=(l[j]?).map .v:=by
    intro l
    induction l with
    |nil=>simp [vs]
    |cons x l ih=>intro j;cases j<;>simp [vs,ih]
   rw [this,h3];rfl
 · refine⟨by simp [cx,hn,←hrep.length];omega,fun d s hs=> ?_,h0.symm,Cls.nil (cx X w []) 0,Nat.le_refl _,by simp⟩
   obtain⟨_,h2⟩:=a2r (n:=0) hs
   have:∀(l:List Value) (j:Nat),(vs l)[j]?=(l[j]?).map .v:=by
    intro l
    induction l with
    |nil=>simp [vs]
    |cons x l ih=>intro j;cases j<;>simp [vs,ih]
   simp only [Nat.sub_zero]at h2
   rw [this]at h2
   cases hv:vl[d]? with
   |none=>rw [hv]at h2;cases h2
   |some y=>
    rw [hv]at h2
    cases h2
    right
    have hlt:=(List.getElem?_eq_some_iff.1 hv).1
    rw [P7,if_pos (by have:=hrep.length;omega),Array.getElem?_append_left (by simpa using hlt)]
    simpa [den]using hv
 · have main:∀ {r:D} {s:SV},a2n sy' r Qr→c6 (okS (fun b=>b<w.heap.size→ok b) st') st'.w (B1 st') r s→(results fn a'.tmps).run X.P w'= .ok (den st'.H s) w'→a'.defers= []∧∃v,(results fn a'.tmps).run X.P w'= .ok v w'∧∃v1 r,Ending.returned v= .returned v1∧Qr r∧Rep (fun b=>ok b∨(w.heap.size≤b∧b<w'.heap.size)) w' r v1∧Below w.heap.size w w':=by
    intro r s hret hrel hrun
    obtain⟨r',hq,hrp⟩:=b0g hA hret hs' hlv.rel hrel
    refine⟨hlv.rel.dfs.trans h0,_,hrun,_,r',rfl,hq,Rep.mono (fun b hb=>⟨?_,rfl⟩) _ _ hrp,hlv.fx.below⟩
    by_cases hlt:b<w.heap.size
    · exact .inl (hb.1 hlt)
    · exact .inr ⟨by omega,hb.2⟩
   have fin:(match a1m X sy' fn.results.toList with
    |some [s]=>a2n sy' s Qr
    |some l=>a2n sy' (.tup l) Qr
    |none=>False)→a'.defers= []∧∃v,(results fn a'.tmps).run X.P w'= .ok v w'∧∃v1 r,Ending.returned v= .returned v1∧Qr r∧Rep (fun b=>ok b∨(w.heap.size≤b∧b<w'.heap.size)) w' r v1∧Below w.heap.size w w':=by
    intro hk
    cases hres:a1m X sy' fn.results.toList with
    |none=>rw [hres]at hk;exact hk.elim
    |some l=>
     rw [hres]at hk
     obtain⟨l',h1,h2⟩:=a3I (w0:=w) (bor:= []) hs' hres
     have hrun:=a1U (X:=cx X w []) hP.tt hlv.rel h1
     match l,l',h2,hk,hrun with
     | [s], [s'],h2,hk,hrun=>exact main hk h2.1 hrun
     | [], [],h2,hk,hrun=>exact main (s:= .tup []) hk (by simp only [c6];exact .inl ⟨[],rfl,trivial⟩) (by simpa [den,a8u,cx]using hrun)
     |x::y::l,x'::y'::l',h2,hk,hrun=>exact main (s:= .tup (x'::y'::l')) hk (by simp only [c6];exact .inl ⟨_,rfl,h2⟩) (by simpa [den,a8u,cx]using hrun)
     | [],_::_,h2,_,_=>simp [c5]at h2
     | [_], [],h2,_,_=>simp [c5]at h2
     | [_],_::_::_,h2,_,_=>simp [c5]at h2
     |_::_::_, [],h2,_,_=>simp [c5]at h2
     |_::_::_, [_],h2,_,_=>simp [c5]at h2
   cases e with
   |normal=>exact fin hk
   |ret=>exact fin hk
   |exit id=>exact hk.elim
   |goto l=>exact hp.elim
   |panic c=>exact hp.elim
   |outgrown=>exact hp.elim
end Go.Sx
namespace Go.Sx
open Go Go.RowKit
abbrev DI (z:Int):D:= .v (.int .i64 z)
abbrev DB (b:Bool):D:= .v (.bool b)
abbrev lD {α:Type} (z:Nat) (x:List α) (c:α→List D):D:= .lst z x.length (x.flatMap c)
abbrev rE {α:Type} (z:Nat) (x:List α) (c:α→List D) (ty:TypeId):E:= .row z x.length (x.flatMap c) ty
theorem VIf.b {α:Type} {b:Bool} {p q:Prop} {x y r:Option α} (h1:b=true→x=r→p) (h2:b=false→y=r→q):(if b=true then x else y)=r→VIf b p q:=by
 intro h
 cases b with
 |true=>exact h1 rfl h
 |false=>exact h2 rfl h
theorem tR {T:List (Nat×D)} {d:Nat} {x:D} (h:s7 T d=some x):∃y,s7 T d=some y∧leD y x:=⟨x,h,c9h x⟩
theorem b0A.refl:∀(l:List D),b0A l l
 | []=>trivial
 |x::l=>by
  have h:=b0A.refl l
  cases x<;>simp only [b0A]<;>first|exact h|exact⟨c9h _,h⟩
theorem hR {H:Hy} {k:Nat} {cs:List D} {ty:TypeId} (h:j3 H k=some (.blk cs ty)):∃cs0,j3 H k=some (.blk cs0 ty)∧b0A cs0 cs:=⟨cs,h,b0A.refl cs⟩
theorem hW {H:Hy} {k z m m0:Nat} {l:List D} {ty:TypeId} (h:j3 H k=some (.row z m0 l ty)) (hm:m0=m:=by first|rfl|simp):∃m0 l0,j3 H k=some (.row z m0 l0 ty)∧m0=m∧l0=l:=⟨m0,l,h,hm,rfl⟩
theorem a4R.det {P:Program} {f:FuncId} {args:List D} {st:Sy} {K:Sy→D→Prop} {r:D} (h:d7 P f args fun x=>x=r) (hk:K st r):a4R P f args st K:=⟨⟨_,h,fun x hx=>hx▸hk⟩⟩
theorem a4R.any {P:Program} {f:FuncId} {args:List D} {st:Sy} {K:Sy→D→Prop} {Q:D→Prop} (h:d7 P f args Q) (hk:∀r,Q r→K st r):a4R P f args st K:=⟨⟨_,h,hk⟩⟩
theorem b0s.det {P:Program} {seq:Bool} {f:FuncId} {fa:List D} {st st':Sy} {K:Sy→D→Prop} {r:D} (h:d7 P f fa fun x=>x=r) (hk:match a5H r,seq with
 |true,_=>K st r
 |false,true=>K st' r
 |false,false=>False):b0s P seq f fa st st' K:=⟨⟨_,h,fun x hx=>hx▸hk⟩⟩
theorem d0.pure {r:D}:d0 r fun x=>x=r:=⟨⟨r,c9h r,rfl⟩⟩
theorem d0.eq {r s:D} (h:r=s):d0 r fun x=>x=s:=⟨⟨r,c9h r,h⟩⟩
theorem c9j {r s:D} (h:leD r s):d0 r fun x=>x=s:=⟨⟨s,h,rfl⟩⟩
theorem q8.of {body:Sy→(Exit→Sy→Prop)→Prop} {st:Sy} {K:Exit→Sy→Prop} {α:Type} (f:α→Sy) (inv:α→Prop) (μ:α→Nat) (x0:α) (h0:Q0 st (f x0)) (hi:inv x0)
 (h:∀x,inv x→body (f x) fun e st2=>match e with
  | .normal=>∃y,Q0 st2 (f y)∧inv y∧μ y<μ x
  |e=>K e st2):q8 body st K:=⟨⟨α,f,inv,μ,⟨x0,h0,hi⟩,h⟩⟩
theorem Q0.of {st st':Sy} (n:Nat) (h1:b0a n st'=true) (h2:b2t n st.T st'.T) (h3:b1y n st.H st'.H):Q0 st st':=⟨[],st,rfl,⟨n,h1,h2,h3⟩⟩
theorem Q0.fz {st st1 st':Sy} (ks:List Nat) (hf:a5X ks st []=some (st1, [])) (n:Nat) (h1:b0a n st'=true) (h2:b2t n st1.T st'.T) (h3:b1y n st1.H st'.H):Q0 st st':=⟨ks,st1,hf,⟨n,h1,h2,h3⟩⟩
theorem c2E.of {X:Cy} (hP:POK X.P X.tt) {c:Code} {st0:Sy} {K:Exit→Sy→Prop} (h:∀sv,S1 { X with sv:=sv} c st0 K):c2E X c st0 K:=
 fun _ _ _ sv st a w Q hA hs hr hQ=>a3M (X:= { X with sv:=sv}) hA hP c st st0 a w K Q (h sv) hs hr hQ
theorem M2.ofP {X:Cy} {f:FuncId} {args:List D} {dst:Option Nat} {st:Sy} {K:Sy→Prop} (hP:POK X.P X.tt) (st0 st1:Sy) (pl:List (Nat×PT)) (ln un inl:List Nat) {fn:Func} {c:Code} (hf:X.P.funcs[f]?=some fn) (hb:fn.body=some c)
 (hg:Nat.ble fn.ntmps 1000000=true) (hl:Nat.ble args.length fn.ntmps=true) (hs:Q0 ⟨a2z 0 args++a0j X.nt st.T,st.H,st.nk⟩ st0)
 (hbody:∀sv,S1 ⟨X.P,X.tt,fn.ntmps,pl,ln,un, [],inl,sv⟩ c st0 (c2T X ⟨X.P,X.tt,fn.ntmps,pl,ln,un, [],inl, []⟩ fn.results.toList dst fun sy=>Q0 sy st1)) (hk:K st1):M2 X f args dst st K:=
 ⟨fn.ntmps,pl,ln,un,inl,fn,c,st0,st1,⟨hf,hb,rfl,hg,hl⟩,hs, .of (X:=⟨X.P,X.tt,fn.ntmps,pl,ln,un, [],inl, []⟩) hP hbody,hk⟩
end Go.Sx
namespace Go.Sx
open Go Go.RowKit
def gd {α:Type} (p:Prop) [Decidable p] (k:Option α):Option α:=if p then k else none
theorem c7 {α:Type} {p:Prop} [Decidable p] {k:Option α} {r:α} (h:gd p k=some r):p∧k=some r:=by
 unfold gd at h
 split at h
 · rename_i hp;exact⟨hp,h⟩
 · cases h
theorem b9 {α β:Type} {o:Option α} {f:α→Option β} {r:β} (h:Option.bind o f=some r):∃x,o=some x∧f x=some r:=by
 cases o with
 |none=>cases h
 |some x=>exact⟨x,rfl,h⟩
theorem c0A {α:Type} {b:Bool} {x y z:α} (h:b=true) (hm:(if b=true then x else y)=z):x=z:=by rw [if_pos h]at hm;exact hm
theorem c0N {α:Type} {b:Bool} {x y z:α} (h:b=false) (hm:(if b=true then x else y)=z):y=z:=by rw [if_neg (by rw [h];exact Bool.false_ne_true)]at hm;exact hm
def a2j {S E:Type} (body:S→Option (Sum S E)):Nat→S→Option E
 |0,_=>none
 |n+1,s=>match body s with
  |none=>none
  |some (.inl s')=>a2j body n s'
  |some (.inr e)=>some e
def a7j:Nat:=18446744073709551616
def j4 {S E:Type} (body:S→Option (Sum S E)) (s:S):Option E:=a2j body a7j s
theorem c1u {S E:Type} {body:S→Option (Sum S E)} {n:Nat} {s:S} {e:E} (h:a2j body n s=some e):∃m b,n=m+1∧body s=some b∧(match b with| .inl s'=>a2j body m s'=some e| .inr e'=>e'=e):=by
 cases n with
 |zero=>cases h
 |succ n=>
  simp only [a2j]at h
  cases hb:body s with
  |none=>rw [hb]at h;cases h
  |some b=>
   rw [hb]at h
   refine⟨n,b,rfl,rfl, ?_⟩
   cases b with
   |inl s'=>exact h
   |inr e'=>cases h;rfl
theorem c9k {S E:Type} {body:Sy→(Exit→Sy→Prop)→Prop} {st:Sy} {K:Exit→Sy→Prop} (L:S→Option (Sum S E)) (f:S→Sy) (s0:S) {ev:E} (h0:Q0 st (f s0)) (he:j4 L s0=some ev)
 (h:∀n s b,L s=some b→(match b with| .inl s'=>a2j L n s'=some ev| .inr e'=>e'=ev)→body (f s) fun x st2=>match x with
  | .normal=>∃y:Nat×S,Q0 st2 (f y.2)∧a2j L y.1 y.2=some ev∧y.1<n+1
  |x=>K x st2):q8 body st K:=by
 refine q8.of (fun x:Nat×S=>f x.2) (fun x=>a2j L x.1 x.2=some ev) (fun x=>x.1) (a7j,s0) h0 he ?_
 rintro⟨n,s⟩ hi
 obtain⟨m,b,rfl,hb,hc⟩:=c1u hi
 exact h m s b hb hc
def idx {α:Type} (l:List α) (i:Int):Option α:=match decide (0≤i)with|true=>l[i.toNat]?|false=>none
theorem a7y {α:Type} {l:List α} {i:Int} {x:α} (h:idx l i=some x):0≤i∧l[i.toNat]?=some x:=by
 unfold idx at h
 split at h
 · rename_i hd;exact⟨of_decide_eq_true hd,h⟩
 · cases h
theorem a0s {α:Type} {c:α→List D} {z:Nat} (hc:∀x,(c x).length=z) (l:List α):(l.flatMap c).length=l.length*z:=by
 induction l with
 |nil=>simp
 |cons x l ih=>simp [ih,hc,Nat.add_mul,Nat.add_comm]
theorem b5K {α:Type} {c:α→List D} {z:Nat} (hc:∀x,(c x).length=z):∀(l:List α) (i:Nat) {x:α},l[i]?=some x→el (l.flatMap c) z i=c x
 | [],i,x,h=>by simp at h
 |y::l,0,x,h=>by
  simp at h;subst h
  simp only [el,Nat.zero_mul,List.drop_zero,List.flatMap_cons]
  rw [List.take_append_of_le_length (by rw [hc];exact Nat.le_refl _),List.take_of_length_le (by rw [hc];exact Nat.le_refl _)]
 |y::l,i+1,x,h=>by
  simp at h
  have ih:=b5K hc l i h
  simp only [el,List.flatMap_cons]at ih⊢
  have:(i+1)*z=(c y).length+i*z:=by rw [hc,Nat.add_mul];omega
  rw [this,List.drop_append,List.drop_eq_nil_of_le (by omega)]
  simpa using ih
theorem c5L {α:Type} {c:α→List D} {z:Nat} {l:List α} {i:Int} {x:α} (hc:∀x,(c x).length=z) (h:idx l i=some x):el (l.flatMap c) z i.toNat=c x∧0≤i∧i<l.length:=by
 obtain⟨h1,h2⟩:=a7y h
 have:=(List.getElem?_eq_some_iff.1 h2).1
 exact⟨b5K hc l _ h2,h1,by omega⟩
theorem c3p {α:Type} {l:List α} {i:Int} {x:α} (h:idx l i=some x):0≤i∧i<l.length:=by
 obtain⟨h1,h2⟩:=a7y h
 have:=(List.getElem?_eq_some_iff.1 h2).1
 exact⟨h1,by omega⟩
theorem a1M {α:Type} {c:α→List D} {z:Nat} {l:List α} {i:Int} {x:α} (hc:∀x,(c x).length=z) (h:idx l i=some x):el (l.flatMap c) z i.toNat=c x∧i.toNat<l.length:=by
 obtain⟨h1,h2⟩:=a7y h
 exact⟨b5K hc l _ h2,(List.getElem?_eq_some_iff.1 h2).1⟩
theorem a6G {α:Type} {c:α→List D} {z n:Nat} {l:List α} {i:Int} {x:α} (hc:∀x,(c x).length=z) (h:idx l i=some x) (hn:l.length=n):el (l.flatMap c) z i.toNat=c x∧i.toNat<n:=hn▸a1M hc h
theorem b7Z {α:Type} {c:α→List D} {z:Nat} (hc:∀x,(c x).length=z):∀(l:List α) (i:Nat) (x:α),i<l.length→a9J (l.flatMap c) z i (c x)=(l.set i x).flatMap c
 | [],i,x,h=>by simp at h
 |y::l,0,x,h=>by
  simp only [a9J,Nat.zero_mul,List.take_zero,List.nil_append,Nat.zero_add,List.flatMap_cons,List.set_cons_zero]
  rw [List.drop_append,List.drop_eq_nil_of_le (by rw [hc];exact Nat.le_refl _),hc];simp
 |y::l,i+1,x,h=>by
  simp at h
  have ih:=b7Z hc l i x h
  simp only [a9J,List.flatMap_cons,List.set_cons_succ]at ih⊢
  have e1:(i+1)*z=(c y).length+i*z:=by rw [hc,Nat.add_mul];omega
  have e2:(i+1)*z+z=(c y).length+(i*z+z):=by rw [hc,Nat.add_mul];omega
  rw [e1,←hc y,Nat.add_assoc,List.take_append,List.drop_append,List.take_of_length_le (by omega),List.drop_eq_nil_of_le (by omega)]
  rw [hc,←ih];simp [List.append_assoc]
theorem Q6 {α:Type} {c:α→List D} {z:Nat} {l:List α} {i:Int} {x y:α} (hc:∀x,(c x).length=z) (h:idx l i=some x):a9J (l.flatMap c) z i.toNat (c y)=(l.set i.toNat y).flatMap c:=
 b7Z hc l _ y (List.getElem?_eq_some_iff.1 (a7y h).2).1
theorem c8 {α:Type} {c:α→List D} {l r:List α}:l.flatMap c++r.flatMap c=(l++r).flatMap c∧l.length+r.length=(l++r).length:=by simp
theorem b5k {α:Type} {c:α→List D} {z:Nat} (hc:∀x,(c x).length=z):∀(n:Nat) (l:List α),(l.flatMap c).drop (n*z)=(l.drop n).flatMap c
 |0,l=>by simp
 |n+1, []=>by simp
 |n+1,x::l=>by
  have e1:(n+1)*z=(c x).length+n*z:=by rw [hc,Nat.add_mul];omega
  rw [List.flatMap_cons,e1,List.drop_append,List.drop_eq_nil_of_le (by omega)]
  simpa using b5k hc n l
theorem b0K {α:Type} {c:α→List D} {z:Nat} (hc:∀x,(c x).length=z):∀(n:Nat) (l:List α),(l.flatMap c).take (n*z)=(l.take n).flatMap c
 |0,l=>by simp
 |n+1, []=>by simp
 |n+1,x::l=>by
  have e1:(n+1)*z=(c x).length+n*z:=by rw [hc,Nat.add_mul];omega
  rw [List.flatMap_cons,e1,List.take_append,List.take_of_length_le (by omega)]
  simpa using b0K hc n l
def sub {α:Type} (l:List α) (a b:Nat):List α:=(l.drop a).take (b-a)
theorem b7S {α:Type} {c:α→List D} {z:Nat} (hc:∀x,(c x).length=z) (a b:Nat) (l:List α):((l.flatMap c).drop (a*z)).take ((b-a)*z)=(sub l a b).flatMap c:=by
 rw [b5k hc,b0K hc];rfl
theorem c0l {α:Type} {l:List α} {a b:Nat} (h:b≤l.length):(sub l a b).length=b-a:=by simp [sub];omega
theorem leD.eq {x y:D} (h:x=y):leD x y:=h▸c9h x
theorem a4d.eq {x y:List D} (h:x=y):a4d x y:=h▸a4d.refl x
theorem c9i {z:Nat}:leD (.v (.slice none 0 0)) (.lst z 0 []):=by simp only [leD];exact .inr ⟨trivial,z,rfl⟩
abbrev cI (x:Int):List D:= [DI x]
abbrev cB (x:Bool):List D:= [DB x]
def c8f {α:Type} (c:α→List D):Option α→D
 |none=> .v (.pointer none)
 |some x=> .ptr (c x) 0
def c1C {α β:Type} (o:Option α) (a:β) (f:α→β):β:=match o with|none=>a|some x=>f x
theorem b2Q {α β:Type} {a r:β} {f:α→β} (h:c1C none a f=r):a=r:=h
theorem b2G {α β:Type} {x:α} {a r:β} {f:α→β} (h:c1C (some x) a f=r):f x=r:=h
end Go.Sx
namespace Go.Sx
open Go Go.RowKit
theorem a7B (l:List Value) (j:Nat):(vs l)[j]?=(l[j]?).map .v:=by
 induction l generalizing j with
 |nil=>simp [vs]
 |cons x l ih=>cases j<;>simp [vs,ih]
structure c6v (e:E) (z' z n:Nat) (l:List D) (ty:TypeId):Prop where
 ex:e= .row z n l ty∧z'=z
def b3L (st:Sy) (z n:Nat) (l:List D) (ty:TypeId) (r:D):Prop:=
 match r with
 | .row k z'=>match j3 st.H k with
  |some e=>c6v e z' z n l ty
  |none=>False
 | .v (.slice none 0 0)=>n=0∧l= []
 |_=>False
def b7y (X:Cy) (rs:List ResultVar) (z n:Nat) (l:List D) (ty:TypeId) (e:Exit) (st:Sy):Prop:=
 match e with
 | .normal=>match a1m X st rs with
  |some [s]=>b3L st z n l ty s
  |_=>False
 | .ret=>match a1m X st rs with
  |some [s]=>b3L st z n l ty s
  |_=>False
 |_=>False
section
variable {A : Nat → Prop} {X : Cy} {w0 : World} {bor : List Nat} {st : St} {sy : Sy} {a : Act} {w : World}
theorem c4N {z n:Nat} {l:List D} {ty:TypeId} {r:D} {s:SV} (h:b3L sy z n l ty r) (hs:Sim A st sy) (hr:Rel (cx X w0 bor) st a w) (hrel:c6 (okS A st) st.w (B1 st) r s):
 a9X (fun b=>(A b∧b<w.heap.size)∧b∉o6 (den st.H s)) w z n l ty (den st.H s)∧∀b,b∈o6 (den st.H s)→b∈bor∨w0.heap.size≤b:=by
 unfold b3L at h
 split at h
 · rename_i k z'
   split at h
   · rename_i e he
     obtain⟨rfl,rfl⟩:=h.ex
     simp only [c6]at hrel
     obtain⟨rfl,_⟩:=hrel
     obtain⟨e',hf',hre⟩:=hs.H _ _ he
     cases e' with
     |blk=>exact hre.elim
     |row v n1 xs z1 ty1=>
      obtain⟨rfl,rfl,rfl,hrep,hfl,hlen⟩:=hre
      have hdv:den st.H (.row k)=v:=by simp [den,m8,hf']
      rw [hdv]
      have hb:∀b,b∈o6 v→b∈bs st.H:=fun b hb=>A7.2 ⟨k,_,n5 hf',hb⟩
      refine⟨⟨xs,hr.cls.row hf',d6.mono (fun b hbk=> ?_) _ _ hrep,hfl,hlen⟩,fun b hbv=>hr.cls.lb b (hb b hbv)⟩
      have h2:=(a5G hr.cls) b hbk
      exact⟨⟨⟨hbk.1.2,h2.1.2.1⟩,fun hc=>hbk.2.2 b (hb b hc) rfl⟩,h2.2⟩
   · exact h.elim
 · obtain⟨rfl,rfl⟩:=h
   simp only [c6]at hrel
   obtain⟨rfl,_⟩:=hrel
   exact⟨⟨[],World.ownsRow_nil _ _ _ _,by simp [d6],rfl,by simp⟩,by simp [den,o6]⟩
 · exact h.elim
theorem c0p (hP:POK X.P X.tt) {fn:Func} {z n:Nat} {l:List D} {ty:TypeId} {e:Exit} {R:Ending→World→Prop} (hp:plain e) (h:b7y X fn.results.toList z n l ty e sy) (hs:Sim A st sy) (hr:Rel (cx X w0 bor) st a w)
 (hR:∀v,a9X (fun b=>(A b∧b<w.heap.size)∧b∉o6 v) w z n l ty v→(∀b,b∈o6 v→b∈bor∨w0.heap.size≤b)→R (.returned v) w) (h0:X.dfs= []):bodyPost X.P fn R e a w:=by
 have fin:(match a1m X sy fn.results.toList with
  |some [s]=>b3L sy z n l ty s
  |_=>False)→a.defers= []∧∃v,(results fn a.tmps).run X.P w= .ok v w∧R (.returned v) w:=by
  intro hk
  cases hres:a1m X sy fn.results.toList with
  |none=>rw [hres]at hk;exact hk.elim
  |some l0=>
   rw [hres]at hk
   obtain⟨l',h1,h2⟩:=a3I (w0:=w0) (bor:=bor) hs hres
   have hrun:=a1U (X:=cx X w0 bor) hP.tt hr h1
   match l0,l',h2,hk,hrun with
   | [s], [s'],h2,hk,hrun=>
    obtain⟨g1,g2⟩:=c4N hk hs hr h2.1
    exact⟨hr.dfs.trans h0,_,hrun,hR _ g1 g2⟩
   | [_], [],h2,_,_=>simp [c5]at h2
   | [_],_::_::_,h2,_,_=>simp [c5]at h2
 cases e with
 |normal=>exact fin h
 |ret=>exact fin h
 |exit id=>exact h.elim
 |goto l=>exact hp.elim
 |panic c=>exact hp.elim
 |outgrown=>exact hp.elim
end
theorem c5u {X:Cy} (hP:POK X.P X.tt) {f:FuncId} {fn:Func} {c:Code} (args:List D) {z n:Nat} {l:List D} {ty:TypeId} (hf:X.P.funcs[f]?=some fn) (hb:fn.body=some c) (hn:X.nt=fn.ntmps) (hl:args.length≤fn.ntmps)
 (h:S1 X c ⟨a2z 0 args, [],0⟩ (b7y X fn.results.toList z n l ty)) (h0:X.dfs= []:=by rfl) (hg:fn.ntmps≤N8:=by exact Nat.le_of_ble_eq_true rfl):b1h X.P f args z n l ty:=by
 intro ok w vl hrep hok
 have hA:∀b,(w.heap.size≤b∨b∈([]:List Nat))→(fun b=>b<w.heap.size→ok b) b:=fun b hb h=>by
  rcases hb with hb|hb
  · omega
  · cases hb
 refine calls_of_wp hf hb (a3M (A:=fun b=>b<w.heap.size→ok b) (w0:=w) (bor:= []) hA hP c ⟨a4c 0 (vs vl), [],0,w,w.heap.size, []⟩ ⟨a2z 0 args, [],0⟩ _ _ _ _ h ?_ ?_ fun e st' sy' a' w' hp hk hs' hlv=> ?_)
 · refine⟨fun d x hx=> ?_,fun k e he=>by simp [j3]at he,rfl,fun j _=>a3o,fun _ _=>rfl⟩
   obtain⟨_,h2⟩:=a2q hx
   obtain⟨y,h3,h4⟩:=hrep.get h2
   right
   refine⟨.v y,a4w (Nat.zero_le _) ?_,Rep.rel _ _ (Rep.mono (fun b hb=>⟨⟨⟨.inl (hok b hb),fun _=>hb⟩,hok b hb,fun c hc=>by simp [bs]at hc⟩,rfl⟩) _ _ h4)⟩
   rw [a7B,h3];rfl
 · refine⟨by simp [cx,hn,←hrep.length];omega,fun d s hs=> ?_,h0.symm,Cls.nil (cx X w []) 0,Nat.le_refl _,by simp⟩
   obtain⟨_,h2⟩:=a2r (n:=0) hs
   simp only [Nat.sub_zero]at h2
   rw [a7B]at h2
   cases hv:vl[d]? with
   |none=>rw [hv]at h2;cases h2
   |some y=>
    rw [hv]at h2
    cases h2
    right
    have hlt:=(List.getElem?_eq_some_iff.1 hv).1
    rw [P7,if_pos (by have:=hrep.length;omega),Array.getElem?_append_left (by simpa using hlt)]
    simpa [den]using hv
 · refine c0p hP hp hk hs' hlv.rel (fun v hrow hbl=>⟨v,rfl,fun b hb=> ?_, ?_,hlv.fx.below⟩) h0
   · rcases hbl b hb with h|h
     · cases h
     · exact h
   · obtain⟨xs,h1,h2,h3,h4⟩:=hrow
     refine⟨xs,h1,d6.mono (fun b hbk=>⟨⟨?_,hbk.2⟩,rfl⟩) _ _ h2,h3,h4⟩
     by_cases hlt:b<w.heap.size
     · exact .inl (hbk.1.1 hlt)
     · exact .inr ⟨by omega,hbk.1.2⟩
def a2M:List D→List Nat
 | []=> []
 | .row k _::l=>k::a2M l
 |_::l=>a2M l
def b5X (H:Hy):Nat→List (Nat×Nat×List D×TypeId)→List D→List D→Prop
 |_,rows, [], []=>rows= []
 |i,(z,n,l,ty)::rows, .row j z'::cells, .row k z''::cs=>(j=i∧z'=z∧z''=z∧j3 H k=some (.row z n l ty))∧b5X H (i+1) rows cells cs
 |i,(z,n,l,ty)::rows, .row j z'::cells, .v (.slice none 0 0)::cs=>(j=i∧z'=z∧n=0∧l= [])∧b5X H (i+1) rows cells cs
 |i,rows,d::cells,c::cs=>(a0F c=true∧c=d)∧b5X H i rows cells cs
 |_,_,_,_=>False
def c2r (st:Sy) (rows:List (Nat×Nat×List D×TypeId)) (cells:List D):D→Prop
 | .agg cs=>ndB (a2M cs)=true∧b5X st.H 0 rows cells cs
 |_=>False
def c2B (X:Cy) (rs:List ResultVar) (rows:List (Nat×Nat×List D×TypeId)) (cells:List D) (e:Exit) (st:Sy):Prop:=
 match e with
 | .normal=>match a1m X st rs with
  |some [s]=>c2r st rows cells s
  |_=>False
 | .ret=>match a1m X st rs with
  |some [s]=>c2r st rows cells s
  |_=>False
 |_=>False
section
variable {A : Nat → Prop} {X : Cy} {w0 : World} {bor : List Nat} {st : St} {sy : Sy} {a : Act} {w : World}
theorem b1W (hs:Sim A st sy) (hr:Rel (cx X w0 bor) st a w):∀(cs:List D) (i:Nat) (rows:List (Nat×Nat×List D×TypeId)) (cells:List D) (ss:List SV),b5X sy.H i rows cells cs→c5 (okS A st) st.w (B1 st) cs ss→
 ∃rv:List Value,(∀b,b∈rv.flatMap o6→∃k e,k∈a2M cs∧c9 st.H k=some e∧b∈bsE e)∧((a2M cs).Nodup→(rv.flatMap o6).Nodup)∧a3N (fun b=>(A b∧b<w.heap.size)∧b∉bs st.H) w rows rv∧
  ∀pre:List Value,pre.length=i→W5 (fun b=>(A b∧b<w.heap.size)∧b∉bs st.H) w (pre++rv) cells (i0 st.H ss)
 | [],i,rows,cells,ss,h,hrel=>by
  cases cells with
  |cons d cells=>simp [b5X]at h
  |nil=>
   simp only [b5X]at h
   subst h
   cases ss with
   |cons=>simp [c5]at hrel
   |nil=>exact⟨[],by simp,fun _=>by simp,trivial,fun _ _=>trivial⟩
 |c::cs,i,rows,cells,ss,h,hrel=>by
  cases ss with
  |nil=>simp [c5]at hrel
  |cons s ss=>
   simp only [c5]at hrel
   obtain⟨h1,h2⟩:=hrel
   unfold b5X at h
   split at h
   · rename_i heq;cases heq
   · rename_i z n l ty rows j z' cells k z'' cs' heq
     cases heq
     obtain⟨⟨rfl,rfl,rfl,hk⟩,h⟩:=h
     simp only [c6]at h1
     obtain⟨rfl,_⟩:=h1
     obtain⟨rv,g1,g2,g3,g4⟩:=b1W hs hr cs (j+1) rows cells ss h h2
     obtain⟨e',hf',hre⟩:=hs.H _ _ hk
     cases e' with
     |blk=>exact hre.elim
     |row v n1 xs z1 ty1=>
      obtain⟨rfl,rfl,rfl,hrep,hfl,hlen⟩:=hre
      have hdv:den st.H (.row k)=v:=by simp [den,m8,hf']
      refine⟨v::rv,fun b hb=> ?_,fun hn=> ?_,⟨⟨xs,hr.cls.row hf',d6.mono (fun b hbk=> ?_) _ _ hrep,hfl,hlen⟩,g3⟩,fun pre hp=> ?_⟩
      · simp only [List.flatMap_cons,List.mem_append]at hb
        rcases hb with hb|hb
        · exact⟨k,_,by simp [a2M],hf',hb⟩
        · obtain⟨k',e,q1,q2,q3⟩:=g1 b hb
          exact⟨k',e,by simp [a2M,q1],q2,q3⟩
      · simp only [a2M,List.nodup_cons]at hn
        simp only [List.flatMap_cons,List.nodup_append]
        refine⟨a6o v,g2 hn.2,fun b hb b' hb' heq=> ?_⟩
        subst heq
        obtain⟨k',e,q1,q2,q3⟩:=g1 b hb'
        have hne:k≠k':=fun e=>hn.1 (e▸q1)
        exact a4y hr.cls.nd hr.cls.keys (n5 hf') (n5 q2) hne hb q3
      · have h3:=(a5G hr.cls) b hbk
        exact⟨⟨⟨hbk.1.2,h3.1.2.1⟩,fun hc=>hbk.2.2 b hc rfl⟩,h3.2⟩
      · have h5:=g4 (pre++ [v]) (by simp [hp])
        rw [List.append_assoc,List.singleton_append]at h5
        simp only [i0,hdv,W5]
        exact⟨by rw [List.getElem?_append_right (by omega),←hp];simp,h5⟩
   · rename_i z n l ty rows j z' cells cs' heq
     cases heq
     obtain⟨⟨rfl,rfl,rfl,rfl⟩,h⟩:=h
     simp only [c6]at h1
     obtain⟨rfl,_⟩:=h1
     obtain⟨rv,g1,g2,g3,g4⟩:=b1W hs hr cs (j+1) rows cells ss h h2
     refine⟨.slice none 0 0::rv,fun b hb=> ?_,fun hn=> ?_,⟨⟨[],World.ownsRow_nil _ _ _ _,by simp [d6],rfl,by simp⟩,g3⟩,fun pre hp=> ?_⟩
     · simp only [List.flatMap_cons,o6,List.nil_append]at hb
       exact g1 b hb
     · simpa [o6]using g2 hn
     · have h5:=g4 (pre++ [.slice none 0 0]) (by simp [hp])
       rw [List.append_assoc,List.singleton_append]at h5
       simp only [i0,den,W5]
       exact⟨by rw [List.getElem?_append_right (by omega),←hp];simp,h5⟩
   · rename_i heq
     cases heq
     obtain⟨⟨hcl,rfl⟩,h⟩:=h
     obtain⟨rv,g1,g2,g3,g4⟩:=b1W hs hr cs _ _ _ ss h h2
     have hkeys:a2M (c::cs)=a2M cs:=by
      cases c<;>first|rfl|simp [a0F]at hcl
     have hrc:=Rep.mono (w':=w) (ok':=fun b=>(A b∧b<w.heap.size)∧b∉bs st.H) (fun b hb=>by
      have h3:=(a5G hr.cls) b hb
      exact⟨⟨⟨hb.1.2,h3.1.2.1⟩,fun hc=>hb.2.2 b hc rfl⟩,h3.2⟩) _ _ (a4s (H:=st.H) _ _ h1 hcl)
     refine⟨rv,by rw [hkeys];exact g1,by rw [hkeys];exact g2,g3,fun pre hp=> ?_⟩
     have h5:=g4 pre hp
     cases c<;>first|(simp only [i0,W5];exact⟨hrc,h5⟩)|simp [a0F]at hcl
   · exact h.elim
theorem c6o (hP:POK X.P X.tt) {fn:Func} {rows:List (Nat×Nat×List D×TypeId)} {cells:List D} {e:Exit} {R:Ending→World→Prop} (hp:plain e) (h:c2B X fn.results.toList rows cells e sy) (hs:Sim A st sy) (hr:Rel (cx X w0 bor) st a w)
 (hR:∀(av rv:List Value),(∀b,b∈rv.flatMap o6→b∈bs st.H)→(rv.flatMap o6).Nodup→a3N (fun b=>(A b∧b<w.heap.size)∧b∉bs st.H) w rows rv→W5 (fun b=>(A b∧b<w.heap.size)∧b∉bs st.H) w rv cells av→R (.returned (.agg av.toArray)) w) (h0:X.dfs= []):bodyPost X.P fn R e a w:=by
 have fin:(match a1m X sy fn.results.toList with
  |some [s]=>c2r sy rows cells s
  |_=>False)→a.defers= []∧∃v,(results fn a.tmps).run X.P w= .ok v w∧R (.returned v) w:=by
  intro hk
  cases hres:a1m X sy fn.results.toList with
  |none=>rw [hres]at hk;exact hk.elim
  |some l0=>
   rw [hres]at hk
   obtain⟨l',h1,h2⟩:=a3I (w0:=w0) (bor:=bor) hs hres
   have hrun:=a1U (X:=cx X w0 bor) hP.tt hr h1
   match l0,l',h2,hk,hrun with
   | [s], [s'],h2,hk,hrun=>
    cases s with
    |agg cs=>
     obtain⟨hn,hk⟩:ndB (a2M cs)=true∧b5X sy.H 0 rows cells cs:=hk
     have h3:=h2.1
     simp only [c6]at h3
     obtain⟨ss,hag,h3,_⟩:=h3
     obtain⟨rv,g1,g2,g3,g4⟩:=b1W hs hr cs 0 rows cells ss hk h3
     have hd:den st.H s'= .agg (i0 st.H ss).toArray:=b2M hag
     refine⟨hr.dfs.trans h0,_,hrun, ?_⟩
     rw [show a8u st.H [s']=den st.H s' from rfl,hd]
     exact hR _ rv (fun b hb=>by obtain⟨k,e,_,q2,q3⟩:=g1 b hb;exact A7.2 ⟨k,e,n5 q2,q3⟩) (g2 (b4J hn)) g3 (g4 [] rfl)
    |_=>exact hk.elim
   | [_], [],h2,_,_=>simp [c5]at h2
   | [_],_::_::_,h2,_,_=>simp [c5]at h2
 cases e with
 |normal=>exact fin h
 |ret=>exact fin h
 |exit id=>exact h.elim
 |goto l=>exact hp.elim
 |panic c=>exact hp.elim
 |outgrown=>exact hp.elim
end
theorem W5.mono {ok ok':Nat→Prop} {w:World} {rv:List Value} (hm:∀b,ok b→ok' b):∀(cells:List D) (a:List Value),W5 ok w rv cells a→W5 ok' w rv cells a
 | [], [],_=>trivial
 | [],_::_,h=>by simp [W5]at h
 |d::cells, [],h=>by cases d<;>simp [W5]at h
 |d::cells,y::a,h=>by
  cases d<;>simp only [W5]at h⊢
  case row=>exact⟨h.1,W5.mono hm cells a h.2⟩
  all_goals exact⟨Rep.mono (fun b hb=>⟨hm b hb,rfl⟩) _ _ h.1,W5.mono hm cells a h.2⟩
theorem a3N.mono {ok ok':Nat→Prop} {w:World} (hm:∀b,ok b→ok' b):∀(rows:List (Nat×Nat×List D×TypeId)) (rv:List Value),a3N ok w rows rv→a3N ok' w rows rv
 | [], [],_=>trivial
 | [],_::_,h=>by simp [a3N]at h
 |_::_, [],h=>by simp [a3N]at h
 |(z,n,l,ty)::rows,v::rv,h=>by
  simp only [a3N]at h⊢
  obtain⟨⟨xs,h1,h2,h3⟩,h4⟩:=h
  exact⟨⟨xs,h1,d6.mono (fun b hb=>⟨hm b hb,rfl⟩) _ _ h2,h3⟩,a3N.mono hm rows rv h4⟩
theorem c5I {X:Cy} (hP:POK X.P X.tt) {f:FuncId} {fn:Func} {c:Code} (args:List D) {rows:List (Nat×Nat×List D×TypeId)} {cells:List D} (hf:X.P.funcs[f]?=some fn) (hb:fn.body=some c) (hn:X.nt=fn.ntmps) (hl:args.length≤fn.ntmps) (hfl:A9 cells=true)
 (h:S1 X c ⟨a2z 0 args, [],0⟩ (c2B X fn.results.toList rows cells)) (h0:X.dfs= []:=by rfl) (hg:fn.ntmps≤N8:=by exact Nat.le_of_ble_eq_true rfl):b5u X.P f args rows cells:=by
 refine⟨hfl,fun ok w vl hrep hok=> ?_⟩
 have hA:∀b,(w.heap.size≤b∨b∈([]:List Nat))→(fun b=>b<w.heap.size→ok b) b:=fun b hb h=>by
  rcases hb with hb|hb
  · omega
  · cases hb
 refine calls_of_wp hf hb (a3M (A:=fun b=>b<w.heap.size→ok b) (w0:=w) (bor:= []) hA hP c ⟨a4c 0 (vs vl), [],0,w,w.heap.size, []⟩ ⟨a2z 0 args, [],0⟩ _ _ _ _ h ?_ ?_ fun e st' sy' a' w' hp hk hs' hlv=> ?_)
 · refine⟨fun d x hx=> ?_,fun k e he=>by simp [j3]at he,rfl,fun j _=>a3o,fun _ _=>rfl⟩
   obtain⟨_,h2⟩:=a2q hx
   obtain⟨y,h3,h4⟩:=hrep.get h2
   right
   refine⟨.v y,a4w (Nat.zero_le _) ?_,Rep.rel _ _ (Rep.mono (fun b hb=>⟨⟨⟨.inl (hok b hb),fun _=>hb⟩,hok b hb,fun c hc=>by simp [bs]at hc⟩,rfl⟩) _ _ h4)⟩
   rw [a7B,h3];rfl
 · refine⟨by simp [cx,hn,←hrep.length];omega,fun d s hs=> ?_,h0.symm,Cls.nil (cx X w []) 0,Nat.le_refl _,by simp⟩
   obtain⟨_,h2⟩:=a2r (n:=0) hs
   simp only [Nat.sub_zero]at h2
   rw [a7B]at h2
   cases hv:vl[d]? with
   |none=>rw [hv]at h2;cases h2
   |some y=>
    rw [hv]at h2
    cases h2
    right
    have hlt:=(List.getElem?_eq_some_iff.1 hv).1
    rw [P7,if_pos (by have:=hrep.length;omega),Array.getElem?_append_left (by simpa using hlt)]
    simpa [den]using hv
 · refine c6o hP hp hk hs' hlv.rel (fun av rv hrb hnd hrows hcells=> ?_) h0
   have hbs:∀b,b∈rv.flatMap o6→w.heap.size≤b∧b<w'.heap.size:=fun b hb=>by
    have h1:=hrb b hb
    rcases hlv.rel.cls.lb b h1 with h|h
    · cases h
    · exact⟨h,hlv.rel.cls.lt_size h1⟩
   have hmono:∀b,((fun b=>b<w.heap.size→ok b) b∧b<w'.heap.size)∧b∉bs st'.H→(ok b∨(w.heap.size≤b∧b<w'.heap.size))∧b∉rv.flatMap o6:=fun b hb1=>by
    refine⟨?_,fun hc=>hb1.2 (hrb b hc)⟩
    by_cases hlt:b<w.heap.size
    · exact .inl (hb1.1.1 hlt)
    · exact .inr ⟨by omega,hb1.1.2⟩
   exact⟨av,rv,rfl,hbs,hnd,hrows.mono hmono,hcells.mono hmono,hlv.fx.below⟩
theorem b8R {X:Cy} {ok:Nat→Prop} {w:World} {v:Value} {vl:List Value} {z n:Nat} {l:List D} {ty:TypeId} {args:List D} {xs:List Value} {fn:Func} (hn:X.nt=fn.ntmps) (hl:args.length+1≤fn.ntmps)
 (hown:w.ownsRow 0 ty z v n xs) (hrl:d6 ok w l xs) (hfl:A9 l=true) (hlen:l.length=n*z) (hnok:∀b,b∈o6 v→¬ok b) (hrep:d6 ok w args vl) (hok:∀b,ok b→b<w.heap.size) (h0:X.dfs= []) (hg:fn.ntmps≤N8):
 Sim (fun b=>b<w.heap.size→ok b∨b∈o6 v) ⟨a4c 0 (.row 0::vs vl), [(0, .row v n xs z ty)],1,w,w.heap.size, []⟩ ⟨a2z 0 (.row 0 z::args), [(0, .row z n l ty)],1⟩∧
 Rel (cx X w (o6 v)) ⟨a4c 0 (.row 0::vs vl), [(0, .row v n xs z ty)],1,w,w.heap.size, []⟩ { tmps:=((v::vl).toArray++Array.replicate (fn.ntmps-(v::vl).toArray.size) undef),defers:= []} w:=by
 have hbs:bs [(0,Ent.row v n xs z ty)]=o6 v:=by simp [bs,bsE]
 have hoks:∀b,ok b→okS (fun b=>b<w.heap.size→ok b∨b∈o6 v) ⟨a4c 0 (.row 0::vs vl), [(0, .row v n xs z ty)],1,w,w.heap.size, []⟩ b∧w.heap[b]?=w.heap[b]?:=fun b hb=>
  ⟨⟨⟨.inl (hok b hb),fun _=> .inl hb⟩,hok b hb,fun c hc e=>by simp only [hbs]at hc;exact hnok c hc (e▸hb)⟩,rfl⟩
 constructor
 · refine⟨fun d x hx=> ?_,fun k e he=> ?_,rfl,fun j hj=> ?_,fun j hj=>rfl⟩
   · obtain⟨_,h2⟩:=a2q hx
     simp only [Nat.sub_zero]at h2
     right
     cases d with
     |zero=>
      simp at h2;subst h2
      refine⟨.row 0,rfl, ?_⟩
      simp only [c6]
      exact⟨trivial,by simp only;omega,fun _=>⟨v,n,xs,z,ty,rfl⟩⟩
     |succ d=>
      simp at h2
      obtain⟨y,h3,h4⟩:=hrep.get h2
      refine⟨.v y,a4w (Nat.zero_le _) ?_,Rep.rel _ _ (Rep.mono hoks _ _ h4)⟩
      simp [a7B,h3]
   · simp only [j3]at he
     cases hb:Nat.beq 0 k with
     |false=>rw [hb]at he;cases he
     |true=>
      rw [hb]at he;cases he
      have:=w4 hb;subst this
      exact⟨_,rfl,by exact⟨rfl,rfl,rfl,d6.mono hoks _ _ hrl,hfl,hlen⟩⟩
   · simp only at hj
     have hb:Nat.beq 0 j=false:=Z1 (by omega)
     simp only [a4c,u4,ment,hb]
     exact a3o
 · refine⟨by simp [cx,hn,←hrep.length];omega,fun d s hs=> ?_,h0.symm, ?_,Nat.le_refl _,by simp⟩
   · obtain⟨_,h2⟩:=a2r (n:=0) hs
     simp only [Nat.sub_zero]at h2
     right
     cases d with
     |zero=>
      simp at h2;subst h2
      show P7 _ _ 0=some v
      rw [P7,if_pos (by decide),Array.getElem?_append_left (by simp)];simp
     |succ d=>
      simp only [List.getElem?_cons_succ,a7B]at h2
      cases hv:vl[d]? with
      |none=>rw [hv]at h2;cases h2
      |some y=>
       rw [hv]at h2
       cases h2
       have hlt:=(List.getElem?_eq_some_iff.1 hv).1
       rw [P7,if_pos (by have:=hrep.length;omega),Array.getElem?_append_left (by simp;omega)]
       simpa [den]using hv
   · refine⟨Fx.refl _ _,Fx.refl _ _,fun k e hm=> ?_,by rw [hbs];exact a6o v,fun b hb=> ?_,by simp,fun k e hm=> ?_⟩
     · simp at hm;obtain⟨rfl,rfl⟩:=hm;exact hown
     · rw [hbs]at hb;exact .inl hb
     · simp at hm;obtain⟨rfl,rfl⟩:=hm;exact Nat.zero_lt_one
end Go.Sx
namespace Go.Sx
open Go Go.RowKit
def b9K (X:Cy):Nat→Code→Sy→(Exit→Sy→Prop)→(Sy→Prop)→Prop
 |0,_,st,_,KT=>KT st
 |n+1, .seq a b,st,K,KT=>S1 X a st fun e st'=>match e with
  | .normal=>b9K X n b st' K KT
  |e=>K e st'
 |_,_,_,_,_=>False
def b6Z:Nat→Code→Code
 |0,c=>c
 |n+1, .seq _ b=>b6Z n b
 |_,c=>c
section
variable {A : Nat → Prop} {X : Cy} {w0 : World} {bor : List Nat} {Q : Exit → Act → World → Prop}
theorem b6M (hA:∀b,(w0.heap.size≤b∨b∈bor)→A b) (hP:POK X.P X.tt):∀(n:Nat) (c:Code) (st:St) (sy:Sy) (a:Act) (w:World) (K:Exit→Sy→Prop) (KT:Sy→Prop),b9K X n c sy K KT→Sim A st sy→Rel (cx X w0 bor) st a w→
 (∀e st' sy' a' w',plain e→K e sy'→Sim A st' sy'→Lv (cx X w0 bor) st.H w st' a' w'→Q e a' w')→
 (∀st' sy' a' w',KT sy'→Sim A st' sy'→Lv (cx X w0 bor) st.H w st' a' w'→(b6Z n c).wp X.P Q a' w')→c.wp X.P Q a w
 |0,c,st,sy,a,w,K,KT,h,hs,hr,_,hT=>hT st sy a w h hs (Lv.refl hr)
 |n+1,c,st,sy,a,w,K,KT,h,hs,hr,hQ,hT=>by
  cases c with
  |seq x y=>
   refine wp_seq (a3M hA hP x st sy a w _ _ h hs hr fun e st1 sy1 a1 w1 hp hk hs1 hl=> ?_)
   cases e with
   |normal=>exact b6M hA hP n y st1 sy1 a1 w1 K KT hk hs1 hl.rel (fun e st' sy' a' w' hp hk hs' hl'=>hQ e st' sy' a' w' hp hk hs' (Lv.trans hl hl')) fun st' sy' a' w' hk hs' hl'=>hT st' sy' a' w' hk hs' (Lv.trans hl hl')
   |exit id=>exact hQ _ _ _ _ _ hp hk hs1 hl
   |ret=>exact hQ _ _ _ _ _ hp hk hs1 hl
   |goto l=>exact hp.elim
   |panic c=>exact hp.elim
   |outgrown=>exact hp.elim
  |_=>exact h.elim
end
theorem a4V {P:Program} {ops:Array Oper} {Q:Exit→Act→World→Prop} {o:Oper} {rest:List Oper} {a:Act} {w w':World} {v:Value} (hg:o.guard=none) (h:(execOp a.eval o).run P w= .ok (.value v) w') (hn:wpList P ops Q rest (a.put o.dst v) w'):wpList P ops Q (o::rest) a w:=by
 have hw:Region.wanted o (yielded ops a.tmps)=true:=by simp [Region.wanted,hg]
 simp only [wpList,hw,if_true]
 left
 unfold Oper.wp
 rw [h]
 exact hn
theorem b2k {a:Act} {d:Nat} {v:Value} (h:d<a.tmps.size):(a.put (some d) v).tmps[d]?=some v:=by simp [Act.put,h]
theorem b9u {a:Act} {d e:Nat} {v:Value} (h:d≠e):(a.put (some d) v).tmps[e]?=a.tmps[e]?:=by simp [Act.put,h]
theorem a4T {a:Act} {d:Option Nat} {v:Value}:(a.put d v).tmps.size=a.tmps.size:=by cases d<;>simp [Act.put]
theorem a9Q {a:Act} {d:Option Nat} {v:Value}:(a.put d v).defers=a.defers:=by cases d<;>simp [Act.put]
theorem a9L {a:Act} {d:Nat} {v:Value} (h:a.tmps[d]?=some v):a.eval (.tmp d)=v:=by simp [Act.eval,h]
section
variable {X : Cy} {Q : Exit → Act → World → Prop} {t e esz bytes : Nat} {i ie : TI} {a : Act} {w : World} {g n cap m : Nat} {cur : Array Value}
theorem c1M (hi:R8 X.P t i) (hd:i.d= .slice e esz bytes) (hm:m≤n) (hnc:n≤cap) (w:World):
 ∃o,(Instr.sliceAt t (.slice (some ⟨g,0,none⟩) n cap) (some (.int .i64 m)) none none).run X.P w= .ok (.slice (some ⟨g,o,none⟩) (n-m) (cap-m)) w∧(n-m=0∨o=m*esz):=by
 have hu:=(hi.slice hd).1
 have hsz:(sizeOf e).run X.P w= .ok esz w:=by
  obtain⟨_,inf,h1,h2,_⟩:=hi.slice hd
  simp [sizeOf,typeInfo,h1,h2]
 by_cases hc:cap=m
 · refine⟨0, ?_, .inl (by omega)⟩
   simp [Instr.sliceAt,Instr.slice,H7 hu,Instr.sliceBounds,run_sliceBound,hm,hsz,hc]
 · refine⟨m*esz, ?_, .inr rfl⟩
   simp [Instr.sliceAt,Instr.slice,H7 hu,Instr.sliceBounds,run_sliceBound,hm,hsz,hc,V5]
theorem c5H (hi:R8 X.P t i) (hd:i.d= .slice e esz bytes) (hm:m≤cap) (w:World):
 (Instr.sliceAt t (.slice (some ⟨g,0,none⟩) n cap) none (some (.int .i64 m)) none).run X.P w= .ok (.slice (some ⟨g,0,none⟩) m cap) w:=by
 have hu:=(hi.slice hd).1
 have hsz:(sizeOf e).run X.P w= .ok esz w:=by
  obtain⟨_,inf,h1,h2,_⟩:=hi.slice hd
  simp [sizeOf,typeInfo,h1,h2]
 by_cases hc:cap=0
 · subst hc
   have:m=0:=by omega
   subst this
   simp [Instr.sliceAt,Instr.slice,H7 hu,Instr.sliceBounds,run_sliceBound,hsz]
 · simp [Instr.sliceAt,Instr.slice,H7 hu,Instr.sliceBounds,run_sliceBound,hm,hsz,hc,V5]
end
end Go.Sx
namespace Go.Sx
open Go Go.RowKit
def b5v (o:Oper):Bool:=match o.op with| .defer _=>false|_=>true
def b5N:List Oper→Bool
 | []=>true
 |o::l=>match b5v o with|true=>b5N l|false=>false
def b3m (fz:List Nat) (o:Oper):Bool:=match o.dst with|none=>true|some d=>match P8 d fz with|true=>false|false=>true
def b6c (fz:List Nat):List Oper→Bool
 | []=>true
 |o::l=>match b3m fz o with|true=>b6c fz l|false=>false
def Q4 (fz:List Nat):Code→Bool
 | .region _ ops _=>match b5N ops.toList with|true=>b6c fz ops.toList|false=>false
 | .seq a b=>match Q4 fz a with|true=>Q4 fz b|false=>false
 | .cond _ a b=>match Q4 fz a with|true=>Q4 fz b|false=>false
 | .block _ c=>Q4 fz c
 | .loop c=>Q4 fz c
 | .skip=>true
 | .label _=>true
 | .exit _=>true
 | .ret=>true
 |_=>false
theorem b8D {l:List Oper} (h:b5N l=true):∀o,o∈l→b5v o=true:=by
 induction l with
 |nil=>simp
 |cons x l ih=>
  simp only [b5N]at h
  split at h
  · rename_i hx
    intro o ho
    rcases List.mem_cons.1 ho with rfl|ho
    · exact hx
    · exact ih h o ho
  · cases h
theorem b4R {P:Program} {l n:Nat} {a:Act} {w:World} {o:Oper} {K:Act→World→Prop} {Q Q':Exit→Act→World→Prop} (h:o.wpIn (Fence.wide.inRound l) n P a w K Q) (hq:¬LetsOut Q) (hp:∀c a w,¬Q (.panic c) a w):o.wpIn (Fence.wide.inRound l) n P a w K Q':=by
 unfold Oper.wpIn at*
 refine⟨h.1, ?_⟩
 have h:=h.2
 generalize (o.semAt (Fence.wide.inRound l).round a.eval).run P w=r at*
 cases r with
 |ok x w'=>
  cases x with
  |value v=>exact h
  |skip=>exact h
  |defer d=>exact h
  |enter f args=>
   refine⟨h.1,h.2.mono fun e w'' he=> ?_⟩
   cases e with
   |returned v=>exact he
   |panicked c=>exact absurd he (hp _ _ _)
   |outgrown=>exact absurd he hq
  |row row args=>exact h
  |round l f tmps assign body=>
   refine⟨h.1,h.2.mono fun e w'' he=> ?_⟩
   cases e with
   |returned v=>exact he
   |panicked c=>exact absurd he (hp _ _ _)
   |outgrown=>exact absurd he hq
  |_=>exact h.elim
 |halt hl w'=>
  cases hl with
  |panic v=>exact absurd h (hp _ _ _)
  |_=>exact h.elim
theorem b9l {fz:List Nat} {l:List Oper} (h:b6c fz l=true):∀o,o∈l→b3m fz o=true:=by
 induction l with
 |nil=>simp
 |cons x l ih=>
  simp only [b6c]at h
  split at h
  · rename_i hx
    intro o ho
    rcases List.mem_cons.1 ho with rfl|ho
    · exact hx
    · exact ih h o ho
  · cases h
def a7k (fz:List Nat) (a a':Act):Prop:=∀d,d∈fz→a'.tmps[d]?=a.tmps[d]?
theorem a4Q {fz:List Nat} {a0 a:Act} {o:Oper} {v:Value} (hd:b3m fz o=true) (h:a7k fz a0 a):a7k fz a0 (a.put o.dst v):=by
 intro d hm
 rw [←h d hm]
 unfold b3m at hd
 cases ho:o.dst with
 |none=>simp [Act.put]
 |some e=>
  rw [ho]at hd
  simp only at hd
  split at hd
  · cases hd
  · rename_i hn
    have hne:e≠d:=fun e'=>by subst e';rw [K2.2 hm]at hn;cases hn
    simp [Act.put,hne]
section
variable {P : Program} {l n : Nat} {a a0 : Act} {w : World} {Q : Exit → Act → World → Prop} {fz : List Nat}
theorem b9O {o:Oper} {K:Act→World→Prop} (hn:b5v o=true) (hd:b3m fz o=true) (hk:a7k fz a0 a) (h:o.wp P a w K Q):o.wpIn (Fence.wide.inRound l) n P a w (fun a' w'=>a7k fz a0 a'∧K a' w') Q:=by
 unfold Oper.wp at h
 unfold Oper.wpIn
 refine⟨fun _ _=>trivial, ?_⟩
 have hne:∀c,o.op≠ .defer c:=fun c e=>by simp [b5v,e]at hn
 rw [Fence.inRound_round,Oper.semAt_some l a.eval o hne]
 generalize (execOp a.eval o).run P w=r at*
 cases r with
 |ok x w'=>
  cases x with
  |value v=>exact⟨a4Q hd hk,h⟩
  |skip=>exact⟨a4Q hd hk,h⟩
  |defer d=>exact⟨a4Q (a:= { a with defers:=d::a.defers}) hd hk,h⟩
  |enter f args=>
   refine⟨fun h=>by simp [Fence.wide]at h,((callsIn_wide.2 h).inRound l).mono fun e w'' he=> ?_⟩
   cases e with
   |returned v=>exact⟨a4Q hd hk,he⟩
   |panicked c=>exact he
   |outgrown=>exact he
  |row row args=>
   refine⟨fun h=>by simp [Fence.wide]at h,fun c cs _=> ?_⟩
   obtain⟨v,w',r,s⟩:=h c cs
   exact⟨v,w',⟨a4Q hd hk,r⟩,stepsIn_wide.2 s⟩
  |_=>exact h.elim
 |halt hl w'=>cases hl<;>exact h
theorem b9Y {ops:Array Oper} (hq:¬LetsOut Q) (hp:∀c a w,¬Q (.panic c) a w):∀(rest:List Oper) (a:Act) (w:World),(∀o,o∈rest→b5v o=true)→(∀o,o∈rest→b3m fz o=true)→a7k fz a0 a→wpList P ops Q rest a w→wpListIn (Fence.wide.inRound l) n P ops (fun e a' w'=>a7k fz a0 a'∧Q e a' w') rest a w
 | [],a,w,_,_,hk,h=>⟨hk,h⟩
 |o::rest,a,w,hn,hd,hk,h=>by
  have ih:=fun a w hk=>b9Y (ops:=ops) hq hp rest a w (fun o ho=>hn o (List.mem_cons_of_mem _ ho)) (fun o ho=>hd o (List.mem_cons_of_mem _ ho)) hk
  simp only [wpList]at h
  simp only [wpListIn]
  split at h
  · rename_i hw
    rw [if_pos hw]
    rcases h with h|⟨_,h⟩
    · exact b4R (Oper.wpIn_mono (fun a w h=>ih a w h.1 h.2) (b9O (hn o List.mem_cons_self) (hd o List.mem_cons_self) hk h)) hq hp
    · exact absurd h hq
  · rename_i hw
    rw [if_neg hw]
    exact⟨fun _ _=>trivial,ih _ _ (a4Q (hd o List.mem_cons_self) hk) h⟩
theorem b5U {ops:Array Oper} {md:Region.Mode} (hq:¬LetsOut Q) (hp:∀c a w,¬Q (.panic c) a w) (hn:∀o,o∈ops.toList→b5v o=true) (hd:∀o,o∈ops.toList→b3m fz o=true):∀(fuel:Nat) (listed:Array Bool) (a:Act) (w:World),a7k fz a0 a→wpAny P md ops Q fuel listed a w→wpAnyIn (Fence.wide.inRound l) n P md ops (fun e a' w'=>a7k fz a0 a'∧Q e a' w') fuel listed a w
 |0,listed,a,w,hk,h=>⟨h.1,hk,h.2⟩
 |fuel+1,listed,a,w,hk,h=>by
  refine⟨fun hr=>⟨hk,h.1 hr⟩,fun i hi=> ?_⟩
  have h2:=h.2 i hi
  unfold wpOp at h2
  unfold wpOpIn
  cases ho:ops[i]? with
  |none=>rw [ho]at h2;exact b5U hq hp hn hd fuel _ a w hk h2
  |some o=>
   rw [ho]at h2
   have hm:=List.mem_of_getElem? (show ops.toList[i]?=some o by simpa using ho)
   simp only at h2⊢
   split at h2
   · rename_i hw
     rw [if_pos hw]
     rcases h2 with h2|⟨_,h2⟩
     · exact b4R (Oper.wpIn_mono (fun a w h=>b5U hq hp hn hd fuel _ a w h.1 h.2) (b9O (hn o hm) (hd o hm) hk h2)) hq hp
     · exact absurd h2 hq
   · rename_i hw
     rw [if_neg hw]
     exact⟨fun _ _=>trivial,b5U hq hp hn hd fuel _ _ _ (a4Q (hd o hm) hk) h2⟩
end
section
variable {A : Nat → Prop} {X : Cy} {w0 : World} {bor : List Nat}
theorem b2C (l n:Nat) (fz:List Nat) (hA:∀b,(w0.heap.size≤b∨b∈bor)→A b) (hP:POK X.P X.tt) (c:Code) (hc:Q4 fz c=true):∀(st:St) (sy:Sy) (a0 a:Act) (w:World) (K:Exit→Sy→Prop) (Q:Exit→Act→World→Prop),a7k fz a0 a→S1 X c sy K→Sim A st sy→Rel (cx X w0 bor) st a w→
 (∀e st' sy' a' w',plain e→K e sy'→Sim A st' sy'→Lv (cx X w0 bor) st.H w st' a' w'→a7k fz a0 a'→Q e a' w')→c.wpIn (Fence.wide.inRound l) n X.P Q a w:=by
 induction c with
 |skip=>exact fun st sy a0 a w K Q hk h hs hr hQ=>wpIn_skip (hQ .normal st sy a w trivial h hs (Lv.refl hr) hk)
 |label l=>exact fun st sy a0 a w K Q hk h hs hr hQ=>wpIn_label (hQ .normal st sy a w trivial h hs (Lv.refl hr) hk)
 |exit id=>exact fun st sy a0 a w K Q hk h hs hr hQ=>wpIn_exit (hQ (.exit id) st sy a w trivial h hs (Lv.refl hr) hk)
 |ret=>exact fun st sy a0 a w K Q hk h hs hr hQ=>wpIn_ret (hQ .ret st sy a w trivial h hs (Lv.refl hr) hk)
 |region id ops draw=>
  intro st sy a0 a w K Q hkp h hs hr hQ
  simp only [Q4]at hc
  split at hc
  · rename_i hn0
    have hn:=b8D hn0
    have hd:=b9l hc
    have hno:¬LetsOut fun e a w=>e=Exit.normal∧(a7k fz a0 a→Q e a w):=by
     rintro⟨a,w,h,_⟩;cases h
    have hpn:∀c a w,¬((Exit.panic c)=Exit.normal∧(a7k fz a0 a→Q (.panic c) a w)):=by
     rintro c a w ⟨h,_⟩;cases h
    have hmono:∀e a w,(a7k fz a0 a∧(e=Exit.normal∧(a7k fz a0 a→Q e a w)))→Q e a w:=fun _ _ _ h=>h.2.2 h.1
    cases draw with
    |false=>exact wpIn_mono (wpIn_region_list (b9Y hno hpn _ _ _ hn hd hkp (b0u hA hP ops.toList _ _ a w _ h hs hr fun st' sy' a' w' hk hs' hl=>⟨rfl,hQ .normal st' sy' a' w' trivial hk hs' hl⟩))) hmono
    |true=>
     simp only [S1]at h
     split at h
     · obtain⟨T,H,nk⟩:=sy
       obtain⟨T',H',nk',ws,lo,iv⟩:=st
       have hx:=a2m (w0:=w0) (bor:=bor) hA hP _ h.2 (b3l (ops:=ops.toList) hs)
       exact wpIn_mono (wpIn_region_any hP.mix (b5U hno hpn hn hd _ _ _ _ hkp (a3O (X:=cx X w0 bor) hP hr h.1 hx fun st' a' w' ⟨sy',hk,hs'⟩ hl=>⟨rfl,hQ .normal st' sy' a' w' trivial hk hs' hl⟩))) hmono
     · exact h.elim
  · cases hc
 |seq x y ihx ihy=>
  intro st sy a0 a w K Q hkp h hs hr hQ
  simp only [Q4]at hc
  split at hc
  · rename_i hcx
    refine wpIn_seq (ihx hcx st sy a0 a w _ _ hkp h hs hr fun e st1 sy1 a1 w1 hp hk hs1 hl hkp1=> ?_)
    cases e with
    |normal=>exact ihy hc st1 sy1 a0 a1 w1 K Q hkp1 hk hs1 hl.rel fun e st2 sy2 a2 w2 hp hk2 hs2 hl2=>hQ e st2 sy2 a2 w2 hp hk2 hs2 (Lv.trans hl hl2)
    |exit id=>exact hQ _ _ _ _ _ hp hk hs1 hl hkp1
    |ret=>exact hQ _ _ _ _ _ hp hk hs1 hl hkp1
    |goto l=>exact hp.elim
    |panic c=>exact hp.elim
    |outgrown=>exact hp.elim
  · cases hc
 |cond c x y ihx ihy=>
  intro st sy a0 a w K Q hkp h hs hr hQ
  simp only [Q4]at hc
  split at hc
  · rename_i hcx
    simp only [S1]at h
    split at h
    · rename_i b hcd
      obtain⟨s,h1,h2,_⟩:=j5 hs hcd
      have:=h2.sc;subst this
      have hb:a.eval c= .bool b:=by simpa [den]using (hr.ev c _ h1).2
      cases b with
      |true=>exact wpIn_cond_true hb (ihx hcx st sy a0 a w K Q hkp h hs hr hQ)
      |false=>exact wpIn_cond_false hb (ihy hc st sy a0 a w K Q hkp h hs hr hQ)
    · exact h.elim
  · cases hc
 |block id c ih=>
  intro st sy a0 a w K Q hkp h hs hr hQ
  refine wpIn_block (ih hc st sy a0 a w _ _ hkp h hs hr fun e st1 sy1 a1 w1 hp hk hs1 hl hkp1=> ?_)
  cases e with
  |normal=>exact hQ _ _ _ _ _ hp hk hs1 hl hkp1
  |exit j=>
   simp only [Exit.inBlock]
   simp only at hk
   split at hk
   · rename_i hb
     rw [if_pos (w4 hb)]
     exact hQ .normal _ _ _ _ trivial hk hs1 hl hkp1
   · rename_i hb
     rw [if_neg (a2V hb)]
     exact hQ _ _ _ _ _ hp hk hs1 hl hkp1
  |ret=>exact hQ _ _ _ _ _ hp hk hs1 hl hkp1
  |goto l=>exact hp.elim
  |panic c=>exact hp.elim
  |outgrown=>exact hp.elim
 |loop c ih=>
  intro st sy a0 a w K Q hkp h hs hr hQ
  have h:q8 (S1 X c) sy K:=h
  obtain⟨α,f,inv,μ,⟨x0,hsub,hinv⟩,hround⟩:=h.ex
  obtain⟨st0,hs0,hr0,hb0⟩:=hsub.rel hA hs hr
  refine wpIn_loop_ghost (fun n a1 w1=>∃x,μ x=n∧inv x∧a7k fz a0 a1∧∃st1,Sim A st1 (f x)∧Lv (cx X w0 bor) st.H w st1 a1 w1) (μ x0) ⟨x0,rfl,hinv,hkp,st0,hs0,hr0,Fx.refl _ _,fun b hb=> .inl (hb0 b hb)⟩ ?_
  rintro n a1 w1 ⟨x,rfl,hinv1,hkp1,st1,hs1,hlv⟩
  refine ih hc st1 (f x) a0 a1 w1 _ _ hkp1 (hround x hinv1) hs1 hlv.rel fun e st2 sy2 a2 w2 hp hk hs2 hl hkp2=> ?_
  have hl2:=Lv.trans hlv hl
  cases e with
  |normal=>
   obtain⟨y,hsb,hi,hlt⟩:=hk
   obtain⟨st3,hs3,hr3,hb3⟩:=hsb.rel hA hs2 hl2.rel
   exact⟨μ y,hlt,y,rfl,hi,hkp2,st3,hs3,hr3,hl2.fx,fun b hb=>hl2.bs b (hb3 b hb)⟩
  |exit j=>exact hQ _ _ _ _ _ hp hk hs2 hl2 hkp2
  |ret=>exact hQ _ _ _ _ _ hp hk hs2 hl2 hkp2
  |goto l=>exact hp.elim
  |panic c=>exact hp.elim
  |outgrown=>exact hp.elim
 |_=>exact absurd hc (by simp [Q4])
end
end Go.Sx
namespace Go.Sx
open Go Go.RowKit
mutual
theorem Rep.keep {ok ok':Nat→Prop} {w w':World} (hm:∀b,ok b→ok' b∧(∀p c,w.cell? ⟨b,p,none⟩=some c→w'.cell? ⟨b,p,none⟩=some c)∧∀es c,w.heap[b]?=some (Obj.map es c)→w'.heap[b]?=some (Obj.map es c)):∀(d:D) (y:Value),Rep ok w d y→Rep ok' w' d y
 | .v x,y,h=>h
 | .agg l,y,h=>by
  simp only [Rep]at h⊢
  obtain⟨a,h1,h2,h3⟩:=h
  exact⟨a,h1,d6.keep hm l _ h2,h3⟩
 | .lst z n l,y,h=>by
  simp only [Rep]at h⊢
  obtain⟨a,c,h1,h2,h3,h4,h5,h6⟩:=h
  refine⟨a,c,h1,h2,h3,h4,h5, ?_⟩
  rcases h6 with h6|⟨b,o,xs,e1,e2,e3,e4⟩
  · exact .inl h6
  · refine .inr ⟨b,o,xs,e1,(hm b e2).1,d6.keep hm l _ e3,fun j hj=> ?_⟩
    have hlt:j<xs.length:=by rw [←d6.length e3,h4];exact hj
    have hx:=e4 j hj
    rw [List.getElem?_eq_getElem hlt]at hx⊢
    exact(hm b e2).2.1 _ _ hx
 | .ptr l o,y,h=>by
  simp only [Rep]at h⊢
  obtain⟨b,p,xs,e1,e2,e5,e3,e4⟩:=h
  refine⟨b,p,xs,e1,(hm b e2).1,e5,d6.keep hm l _ e3,fun j hj=> ?_⟩
  have hlt:j<xs.length:=by rw [←d6.length e3];exact hj
  have hx:=e4 j hj
  rw [List.getElem?_eq_getElem hlt]at hx⊢
  exact(hm b e2).2.1 _ _ hx
 | .fn f a b,y,h=>by
  simp only [Rep]at h⊢
  obtain⟨p,q,h1,h2,h3⟩:=h
  exact⟨p,q,h1,d6.keep hm a _ h2,d6.keep hm b _ h3⟩
 | .tup l,y,h=>by
  simp only [Rep]at h⊢
  obtain⟨a,h1,h2⟩:=h
  exact⟨a,h1,d6.keep hm l _ h2⟩
 | .mp l,y,h=>by
  simp only [Rep]at h⊢
  obtain⟨r,es,c,h1,h2,h3,h4⟩:=h
  exact⟨r,es,c,h1,(hm r h2).1,(hm r h2).2.2 _ _ h3,h4⟩
 | .own _ _,_,h=>by simp [Rep]at h
 | .ownx _ _,_,h=>by simp [Rep]at h
 | .row _ _,_,h=>by simp [Rep]at h
 | .elr _ _ _ _,_,h=>by simp [Rep]at h
 | .osl _ _ _ _ _,_,h=>by simp [Rep]at h
 | .und,_,h=>by simp [Rep]at h
 | .bad,_,h=>by simp [Rep]at h
theorem d6.keep {ok ok':Nat→Prop} {w w':World} (hm:∀b,ok b→ok' b∧(∀p c,w.cell? ⟨b,p,none⟩=some c→w'.cell? ⟨b,p,none⟩=some c)∧∀es c,w.heap[b]?=some (Obj.map es c)→w'.heap[b]?=some (Obj.map es c)):∀(l:List D) (r:List Value),d6 ok w l r→d6 ok' w' l r
 | [], [],_=>trivial
 |d::l,y::r,h=>by
  simp only [d6]at h⊢
  exact⟨Rep.keep hm d y h.1,d6.keep hm l r h.2⟩
 | [],_::_,h=>by simp [d6]at h
 |_::_, [],h=>by simp [d6]at h
end
mutual
theorem c6.keep {ok ok':Nat→Prop} {w w':World} {R R':Bool→Nat→Prop} (hm:∀b,ok b→ok' b∧(∀p c,w.cell? ⟨b,p,none⟩=some c→w'.cell? ⟨b,p,none⟩=some c)∧∀es c,w.heap[b]?=some (Obj.map es c)→w'.heap[b]?=some (Obj.map es c)) (hR:∀q k,R q k→R' q k):∀(d:D) (s:SV),c6 ok w R d s→c6 ok' w' R' d s
 | .v x,y,h=>h
 | .agg l,y,h=>by
  simp only [c6]at h⊢
  obtain⟨a,h1,h2,h3⟩:=h
  exact⟨a,h1,c5.keep hm hR l _ h2,h3⟩
 | .lst z n l,y,h=>by
  simp only [c6]at h⊢
  obtain⟨a,h1,h2⟩:=h
  exact⟨a,h1,Rep.keep hm _ _ h2⟩
 | .ptr l o,y,h=>by
  simp only [c6]at h⊢
  obtain⟨a,h1,h2⟩:=h
  exact⟨a,h1,Rep.keep hm _ _ h2⟩
 | .mp l,y,h=>by
  simp only [c6]at h⊢
  obtain⟨a,h1,h2⟩:=h
  exact⟨a,h1,Rep.keep hm _ _ h2⟩
 | .own k o,y,h=>by simp only [c6]at h⊢;exact⟨h.1,hR _ k h.2⟩
 | .ownx k o,y,h=>by simp only [c6]at h⊢;exact⟨h.1,hR _ k h.2⟩
 | .row k z,y,h=>by simp only [c6]at h⊢;exact⟨h.1,hR _ k h.2⟩
 | .elr k z i o,y,h=>by simp only [c6]at h⊢;exact⟨h.1,hR _ k h.2⟩
 | .osl k o z n c,y,h=>by simp only [c6]at h⊢;exact⟨h.1,hR _ k h.2⟩
 | .tup l,y,h=>by
  simp only [c6]at h⊢
  rcases h with⟨cs,h1,h2⟩|⟨a,h1,h2⟩
  · exact .inl ⟨cs,h1,c5.keep hm hR l _ h2⟩
  · exact .inr ⟨a,h1,c5.keep hm hR l _ h2⟩
 | .fn f a b,y,h=>by
  simp only [c6]at h⊢
  rcases h with⟨p,q,h1,h2,h3⟩|⟨p,q,h1,h2,h3⟩
  · exact .inl ⟨p,q,h1,c5.keep hm hR a _ h2,c5.keep hm hR b _ h3⟩
  · exact .inr ⟨p,q,h1,c5.keep hm hR a _ h2,c5.keep hm hR b _ h3⟩
 | .und,_,h=>h
 | .bad,_,h=>h
theorem c5.keep {ok ok':Nat→Prop} {w w':World} {R R':Bool→Nat→Prop} (hm:∀b,ok b→ok' b∧(∀p c,w.cell? ⟨b,p,none⟩=some c→w'.cell? ⟨b,p,none⟩=some c)∧∀es c,w.heap[b]?=some (Obj.map es c)→w'.heap[b]?=some (Obj.map es c)) (hR:∀q k,R q k→R' q k):∀(l:List D) (r:List SV),c5 ok w R l r→c5 ok' w' R' l r
 | [], [],_=>trivial
 |d::l,y::r,h=>by
  simp only [c5]at h⊢
  exact⟨c6.keep hm hR d y h.1,c5.keep hm hR l r h.2⟩
 | [],_::_,h=>by simp [c5]at h
 |_::_, [],h=>by simp [c5]at h
end
theorem a7W {H:Hp} {w:World} {e:Ent} {b:Nat} (h:a5r 0 H w e) (hb:b∈bsE e):∃cs t f,w.heap[b]?=some (.cells cs t f):=by
 cases e with
 |blk b' cs ty=>
  simp only [bsE,List.mem_singleton]at hb;subst hb
  obtain⟨xs,_,h⟩:=h
  exact⟨_,_,_,h⟩
 |row v n xs z ty=>
  obtain⟨_,h⟩:=(show w.ownsRow 0 ty z v n xs from h)
  rcases h with⟨rfl,_⟩|⟨g,cap,cur,rfl,_,hg,_⟩
  · simp [bsE,o6]at hb
  · simp [bsE,o6]at hb;subst hb;exact⟨_,_,_,hg⟩
section
variable {A : Nat → Prop} {X : Cy} {w0 : World} {bor : List Nat} {st : St} {sy : Sy} {a : Act} {W W' : World}
def c1h:Obj→Bool
 | .cells _ _ _=>false
 | .map _ _=>false
 |_=>true
theorem turn {row:Option Nat} (hs:Sim A st sy) (hr:Rel (cx X w0 bor) st a W) (hg:W.grownBy W' row) (hrow:∀r,row=some r→w0.heap.size≤r∧∃o:Obj,W.heap[r]?=some o∧c1h o=true):Sim A (now st W') sy∧Rel (cx X w0 bor) (now st W') a W':=by
 have hs0:=hs.now hr.cls
 have hr0:=hr.now
 have hcell:∀b p c,W.cell? ⟨b,p,none⟩=some c→W'.cell? ⟨b,p,none⟩=some c:=by
  intro b p c h
  by_cases hb:b<W.heap.size
  · by_cases hrb:row=some b
    · obtain⟨_,o,ho,hc⟩:=hrow b hrb
      simp only [World.cell?,ho]at h
      cases o<;>simp_all [c1h]
    · simp only [World.cell?,hg.block b hb (fun e=>hrb e.symm)]at h⊢
      exact h
  · simp [World.cell?,Array.getElem?_eq_none (Nat.le_of_not_lt hb)]at h
 have hmap:∀(b:Nat) es c,W.heap[b]?=some (Obj.map es c)→W'.heap[b]?=some (Obj.map es c):=by
  intro b es c h
  rw [hg.block b (Array.getElem?_eq_some_iff.1 h).1 fun hrb=> ?_]
  · exact h
  · obtain⟨_,o,ho,hc⟩:=hrow b hrb.symm
    rw [h]at ho;cases ho;simp [c1h]at hc
 have hok:∀b,okS A (now st W) b→okS A (now st W') b∧(∀p c,W.cell? ⟨b,p,none⟩=some c→W'.cell? ⟨b,p,none⟩=some c)∧∀es c,W.heap[b]?=some (Obj.map es c)→W'.heap[b]?=some (Obj.map es c):=fun b hb=>
  ⟨⟨⟨.inl (Nat.lt_of_lt_of_le hb.2.1 hg.size),hb.1.2⟩,Nat.lt_of_lt_of_le hb.2.1 hg.size,hb.2.2⟩,hcell b,hmap b⟩
 constructor
 · refine⟨fun d x hx=> ?_,fun k e he=> ?_,hs0.nk,hs0.fT,hs0.fH⟩
   · rcases hs0.T d x hx with h|⟨s,h1,h2⟩
     · exact .inl h
     · exact .inr ⟨s,h1,c6.keep hok (fun _ _ h=>h) _ _ h2⟩
   · obtain⟨e',h1,h2⟩:=hs0.H k e he
     refine⟨e',h1, ?_⟩
     cases e<;>cases e'<;>simp only [a3R]at h2⊢
     · exact⟨h2.1,c5.keep hok (fun _ _ h=>h) _ _ h2.2⟩
     · exact⟨h2.1,h2.2.1,h2.2.2.1,d6.keep hok _ _ h2.2.2.2.1,h2.2.2.2.2⟩
 · have hc:=hr0.cls
   have hbs:∀k e,(k,e)∈st.H→∀b,b∈bsE e→W'.heap[b]?=W.heap[b]?:=by
    intro k e he b hb
    obtain⟨cs,t,f,hcl⟩:=a7W (hc.own k e he) hb
    refine hg.block b (by rw [Array.getElem?_eq_some_iff]at hcl;exact hcl.1) fun hrb=> ?_
    obtain⟨_,o,ho,hno⟩:=hrow b hrb.symm
    rw [hcl]at ho;cases ho;simp [c1h]at hno
   refine⟨hr0.size,hr0.T,hr0.dfs,⟨Fx.refl _ _, ?_,fun k e he=>V8 (hc.own k e he) (hbs k e he),hc.nd,hc.lb,hc.keys,hc.lt⟩,Nat.le_refl _,by simp [now]⟩
   have f0:=hc.fx0
   refine⟨hg.os.trans f0.os,hg.tape.trans f0.tape,hg.output.trans f0.output,Nat.le_trans f0.size hg.size,fun i hi hn=> ?_⟩
   rw [hg.block i (Nat.lt_of_lt_of_le hi f0.size) fun e=>by have:=(hrow i e.symm).1;exact absurd hi (Nat.not_lt.2 this)]
   exact f0.block i hi hn
end
end Go.Sx
namespace Go.Sx
open Go Go.RowKit
def a7t (fz:List Nat):List (Nat×SV)→List (Nat×SV)
 | []=> []
 |(d,s)::T=>match P8 d fz with|true=>(d,s)::a7t fz T|false=>a7t fz T
theorem b3G {fz:List Nat} {d:Nat} (hd:d∈fz) (T:List (Nat×SV)):y0 (a7t fz T) d=y0 T d:=by
 induction T with
 |nil=>rfl
 |cons p T ih=>
  obtain⟨e,s⟩:=p
  simp only [a7t]
  cases hm:P8 e fz with
  |true=>simp only [y0,ih]
  |false=>
   have hne:Nat.beq e d=false:=Z1 fun e'=>by subst e';rw [K2.2 hd]at hm;cases hm
   simp only [y0,hne,ih]
theorem b1P {fz:List Nat} {d:Nat} {s:SV} {T:List (Nat×SV)} (h:y0 (a7t fz T) d=some s):d∈fz:=by
 induction T with
 |nil=>simp [a7t,y0]at h
 |cons p T ih=>
  obtain⟨e,s⟩:=p
  simp only [a7t]at h
  cases hm:P8 e fz with
  |true=>
   rw [hm]at h
   simp only [y0]at h
   split at h
   · rename_i hb
     obtain rfl:=w4 hb
     exact K2.1 hm
   · exact ih h
  |false=>rw [hm]at h;exact ih h
theorem b6V {fz:List Nat} {j:Nat} {T:List (Nat×SV)} (h:u4 j T=true):u4 j (a7t fz T)=true:=by
 induction T with
 |nil=>rfl
 |cons p T ih=>
  obtain⟨e,s⟩:=p
  simp only [u4]at h
  simp only [a7t]
  cases hm:P8 e fz with
  |true=>
   cases hx:ment j s with
   |true=>rw [hx]at h;cases h
   |false=>rw [hx]at h;simp only [u4,hx];exact ih h
  |false=>
   cases hx:ment j s with
   |true=>rw [hx]at h;cases h
   |false=>rw [hx]at h;exact ih h
section
variable {A : Nat → Prop} {X : Cy} {w0 : World} {bor : List Nat} {st : St} {sy : Sy} {a a' : Act} {W : World} {fz : List Nat}
theorem c6U (hs:Sim A st sy) (hr:Rel (cx X w0 bor) st a' W) (hk:a7k fz a a') (hsz:a.tmps.size=X.nt) (hT:∀d x,s7 sy.T d=some x→d∈fz) (ds:List Deferred) (hds:a.defers=ds):
 Sim A ⟨a7t fz st.T,st.H,st.nk,st.w,st.lo,st.iv⟩ sy∧Rel (cx { X with dfs:=ds} w0 bor) ⟨a7t fz st.T,st.H,st.nk,st.w,st.lo,st.iv⟩ a W:=by
 constructor
 · refine⟨fun d x hx=> ?_,hs.H,hs.nk,fun j hj=>b6V (hs.fT j hj),hs.fH⟩
   rcases hs.T d x hx with h|⟨s,h1,h2⟩
   · exact .inl h
   · exact .inr ⟨s,by rw [b3G (hT d x hx)];exact h1,h2⟩
 · refine⟨⟨hsz,hr.size.2⟩,fun d s h=> ?_,hds,⟨hr.cls.fx,hr.cls.fx0,hr.cls.own,hr.cls.nd,hr.cls.lb,hr.cls.keys,hr.cls.lt⟩,hr.lo,hr.iv⟩
   have hd:=b1P h
   rw [b3G hd]at h
   rcases hr.T d s h with h|h
   · exact .inl h
   · right;simp only [P7]at h⊢;rw [←hk d hd];exact h
def b4f:List Nat→List Value→Array Value→Array Value
 |p::ps,v::vs,t=>b4f ps vs (t.setIfInBounds p v)
 |_,_,t=>t
theorem b9I:∀(ps:List Nat) (vs:List Value) (t:Array Value),(ps.zip vs).foldl (fun t (p:Nat×Value)=>t.setIfInBounds p.1 p.2) t=b4f ps vs t
 | [],_,t=>rfl
 |p::ps, [],t=>rfl
 |p::ps,v::vs,t=>by simp only [List.zip_cons_cons,List.foldl_cons,b4f];exact b9I ps vs _
def b4N (X:Cy):List Nat→List D→Sy→(Sy→Prop)→Prop
 | [], [],st,K=>K st
 |p::ps,d::ds,st,K=>W6 X st (some p) d fun st=>b4N X ps ds st K
 |_,_,_,_=>False
theorem c3K {Xx:Cx} {dst:Option Nat} {s:SV} {K:St→Prop} (h:put Xx st dst s K):put Xx st dst s fun st'=>K st'∧st'.w=st.w∧st'.H=st.H∧st'.lo=st.lo∧st'.iv=st.iv:=by
 unfold put at h⊢
 cases dst with
 |none=>exact⟨h,rfl,rfl,rfl,rfl⟩
 |some d=>
  obtain⟨T,H,nk,w,lo,iv⟩:=st
  simp only at h⊢
  split at h
  · rename_i hd heq
    cases heq
    exact⟨h,rfl,rfl,rfl,rfl⟩
  · exact h.elim
theorem c1W {A:Nat→Prop} {st st':St} (hw:st'.w=st.w) (hH:st'.H=st.H) (hl:st'.lo=st.lo) (hi:st'.iv=st.iv):okS A st'=okS A st:=by
 funext b;simp only [okS,hw,hH,hl,hi]
theorem b9L:∀(ps:List Nat) (ds:List D) (vs:List Value) {K:Sy→Prop} {st:St} {sy:Sy} {a:Act},d6 (okS A st) st.w ds vs→b4N X ps ds sy K→Sim A st sy→Rel (cx X w0 bor) st a W→
 ∃st' sy',K sy'∧Sim A st' sy'∧Rel (cx X w0 bor) st' { a with tmps:=b4f ps vs a.tmps} W∧st'.H=st.H
 | [], [],vs,K,st,sy,a,hv,h,hs,hr=>by
  cases vs with
  |nil=>exact⟨st,sy,h,hs,hr,rfl⟩
  |cons v vs=>exact absurd hv (by simp [d6])
 |p::ps,d::ds, [],K,st,sy,a,hv,h,hs,hr=>absurd hv (by simp [d6])
 |p::ps,d::ds,v::vs,K,st,sy,a,hv,h,hs,hr=>by
  have hd:Rep (okS A st) st.w d v:=hv.1
  have hput:=c3K (I7 (w0:=w0) (bor:=bor) (s:= .v v) h hs (Rep.rel _ _ hd))
  obtain⟨st1,⟨⟨sy1,h1,h2⟩,e1,e2,e3,e4⟩,h3,h4⟩:=a2F hr hput (v:=v) (.inr (by simp [den]))
  obtain⟨st2,sy2,g1,g2,g3,g4⟩:=b9L ps ds vs (by rw [c1W e1 e2 e3 e4,e1];exact hv.2) h1 h2 h3
  exact⟨st2,sy2,g1,g2,g3,g4.trans h4⟩
 | [],_::_,_,_,_,_,_,_,h,_,_=>h.elim
 |_::_, [],_,_,_,_,_,_,h,_,_=>h.elim
end
def a9e (P:Program) (gf:FuncId) (caps:List D) (xs:List (List D)):Prop:=
 ∀(ok O0:Nat→Prop) (W:World) (vl:List Value) (n l:Nat) (J:List (List D)→(Nat→Prop)→World→Prop) (Jx:List (List D)→World→Prop),
  d6 ok W caps vl→(∀b,ok b→b<W.heap.size∧¬O0 b)→(∀b,O0 b→b<W.heap.size)→
  (∀pre O A B,J pre O A→A.grownBy B none→J pre O B)→(∀pre A B,Jx pre A→A.grownBy B none→Jx pre B)→
  (∀pre x vals O W1,J pre O W1→(∀b,O b→b<W1.heap.size)→pre++ [x]<+:xs→d6 (fun b=>(ok b∨W.heap.size≤b)∧b<W1.heap.size∧¬O b) W1 x vals→
   YieldAt Fence.wide n P l vals.toArray W1 fun e W'=>
    (e= .returned (.bool true)∧∃O',J (pre++ [x]) O' W'∧W1.heap.size≤W'.heap.size∧(∀b,O' b→b<W'.heap.size∧(O b∨W1.heap.size≤b))∧∀b,b<W1.heap.size→¬O b→W'.heap[b]?=W1.heap[b]?)∨
    (e= .returned (.bool false)∧Jx (pre++ [x]) W'))→
  J [] O0 W→
  CallsIn Fence.wide (n+1) P gf (#[.func (.yield l) #[] #[]]++vl.toArray) W fun e W'=>(∃v,e= .returned v)∧((∃O,J xs O W')∨∃pre,pre<+:xs∧Jx pre W')
def c2j:Exit→Code
 | .exit id=> .exit id
 |_=> .ret
def c3t {σ:Type} (f:σ→Sy) (fx:Exit→σ→Sy) (R:List (List D)→σ→Prop) (RX:Exit→List (List D)→σ→Prop) (pre:List (List D)) (e:Exit) (sy:Sy):Prop:=
 match e with
 | .normal=>∃s,R pre s∧Q0 sy (f s)
 | .ret=>∃s,RX .ret pre s∧Q0 sy (fx .ret s)
 | .exit id=>∃s,RX (.exit id) pre s∧Q0 sy (fx (.exit id) s)
 |_=>False
abbrev a7a (D:Nat):Deferred:= { target:= .collected D,args:= #[]}
section
variable {A : Nat → Prop} {X : Cy} {w0 : World} {bor : List Nat} {st : St} {sy : Sy} {a : Act} {w : World}
structure Mid (A:Nat→Prop) (X:Cy) (w0:World) (bor:List Nat) (H:Hp) (w:World) (a:Act) (sy:Sy) (W:World):Prop where
 ex:∃st1,Sim A st1 sy∧Rel (cx X w0 bor) st1 a W∧Fx (bs H) w W∧∀b,b∈bs st1.H→b∈bs H∨w.heap.size≤b
theorem Mid.turn {H:Hp} {W W':World} {row:Option Nat} (h:Mid A X w0 bor H w a sy W) (h0:w0.heap.size≤w.heap.size) (hg:W.grownBy W' row) (hrow:∀r,row=some r→w.heap.size≤r∧∃o:Obj,W.heap[r]?=some o∧c1h o=true):Mid A X w0 bor H w a sy W':=by
 obtain⟨st1,hs,hr,hf,hb⟩:=h.ex
 obtain⟨h1,h2⟩:=Sx.turn hs hr hg fun r e=>⟨Nat.le_trans h0 (hrow r e).1,(hrow r e).2⟩
 refine⟨_,h1,h2,⟨hg.os.trans hf.os,hg.tape.trans hf.tape,hg.output.trans hf.output,Nat.le_trans hf.size hg.size,fun i hi hn=> ?_⟩,hb⟩
 rw [hg.block i (Nat.lt_of_lt_of_le hi hf.size) fun e=>by have:=(hrow i e.symm).1;omega]
 exact hf.block i hi hn
def a8Z (fz ps:List Nat):Bool:=match fz with
 | []=>true
 |d::fz=>match P8 d ps with|false=>a8Z fz ps|true=>false
theorem b9d {fz ps:List Nat} (h:a8Z fz ps=true):∀d,d∈fz→d∉ps:=by
 induction fz with
 |nil=>simp
 |cons e fz ih=>
  simp only [a8Z]at h
  split at h
  · rename_i h1
    intro d hd
    rcases List.mem_cons.1 hd with rfl|hd
    · exact fun hm=>absurd (K2.2 hm) (by rw [h1];exact Bool.false_ne_true)
    · exact ih h d hd
  · cases h
def b2a (X:Cy) (body:Code) (K:Exit→Sy→Prop):Exit→Sy→Prop
 | .normal,st=>S1 X body st K
 |_,_=>False
theorem b7r {d:Nat}:∀(ps:List Nat) (vs:List Value) (t:Array Value),d∉ps→(b4f ps vs t)[d]?=t[d]?
 | [],_,t,_=>by simp [b4f]
 |p::ps, [],t,_=>by simp [b4f]
 |p::ps,v::vs,t,h=>by
  simp only [List.mem_cons,not_or]at h
  simp only [b4f]
  rw [b7r ps vs _ h.2,Array.getElem?_setIfInBounds_ne (fun e=>h.1 e.symm)]
theorem b7B {H:Hp} {w W W':World} {a:Act} {st:St} {B:Nat} (hc:Cls (cx X w0 bor) st.H st.nk st.w W) (hf:Fx (bs st.H) W W'):KeepsFrom B W W':=
 ⟨hf.size,fun k o _ hk ho=>by
  rw [hf.block k (Array.getElem?_eq_some_iff.1 hk).1 fun b hb e=> ?_]
  · exact hk
  · subst e
    obtain⟨j,e,he,hbe⟩:=A7.1 hb
    obtain⟨cs,t,f,hcl⟩:=a7W (hc.own j e he) hbe
    rw [hcl]at hk;cases hk;simp [Obj.isCells]at ho⟩
def c5Q (A:Nat→Prop) (X:Cy) (w0:World) (bor:List Nat) (H:Hp) (w:World) (a:Act) (sy:Sy) (O:Nat→Prop) (W:World):Prop:=
 ∃st1,Sim A st1 sy∧Rel (cx X w0 bor) st1 a W∧Fx (bs H) w W∧(∀b,b∈bs st1.H→b∈bs H∨w.heap.size≤b)∧∀b,b∈bs st1.H→O b
theorem a6u {A B:World} (hg:A.grownBy B none) {k:Nat} {o:Obj} (h:A.heap[k]?=some o):B.heap[k]?=some o:=
 (hg.block k (Array.getElem?_eq_some_iff.1 h).1 (by simp)).trans h
theorem c3C (hA:∀b,(w0.heap.size≤b∨b∈bor)→A b) (hP:POK X.P X.tt) (hs:Sim A st sy) (hr:Rel (cx X w0 bor) st a w) {g:Operand} {ps:Array Tmp} {assign body:Code} {gf:FuncId} {caps:List D} {vl:List Value} {xs:List (List D)} {Q:Exit→Act→World→Prop}
 (hg:a.eval g= .func (.func gf) #[] vl.toArray) (hcaps:d6 (okS A (now st w)) w caps vl) (hit:a9e X.P gf caps xs) (heg:∀args w,(callFunc gf args).run X.P w= .ok (.enter gf args) w) (hps:∀x,x∈xs→x.length=ps.size)
 {fz:List Nat} (hak:Q4 fz assign=true) (hbk:Q4 fz body=true) (hfree:a8Z fz ps.toList=true)
 {σ:Type} (f:σ→Sy) (fx:Exit→σ→Sy) (R:List (List D)→σ→Prop) (RX:Exit→List (List D)→σ→Prop) (s0:σ) (hstart:Q0 sy (f s0)) (h0:R [] s0)
 (hdom:∀s d x,s7 (f s).T d=some x→d∈fz) (hdomx:∀e s d x,s7 (fx e s).T d=some x→d∈fz)
 (hround:∀(pre:List (List D)) (s:σ) (x:List D),pre++ [x]<+:xs→R pre s→∃RK:Exit→Sy→Prop,(∀e sy,RK e sy→c3t f fx R RX (pre++ [x]) e sy)∧b4N { X with dfs:= []} ps.toList x (f s) fun st1=>S1 { X with dfs:= []} assign st1 (b2a { X with dfs:= []} body RK))
 (hdone:∀(D:Nat) (s:σ) (W:World),w.heap.size≤D→W.heap[D]?=some (.deferred (some []))→R xs s→Mid A { X with dfs:=a7a D::X.dfs} w0 bor st.H w { a with defers:=a7a D::a.defers} (f s) W→Q .normal { a with defers:=a7a D::a.defers} W)
 (hstop:∀(dd:Nat) (e:Exit) (pre:List (List D)) (s:σ) (W:World),w.heap.size≤dd→W.heap[dd]?=some (.deferred (some []))→pre<+:xs→RX e pre s→(e= .ret∨∃id,e= .exit id)→Mid A { X with dfs:=a7a dd::X.dfs} w0 bor st.H w { a with defers:=a7a dd::a.defers} (fx e s) W→Q e { a with defers:=a7a dd::a.defers} W):
 (Code.rangeFunc g ps assign body).wp X.P Q a w:=by
 have hw0:w0.heap.size≤w.heap.size:=hr.cls.fx0.size
 obtain⟨X0,hX0⟩:∃X0:Cy,X0= { X with dfs:= []}:=⟨_,rfl⟩
 rw [←hX0]at hround
 have hP0:POK X0.P X0.tt:=by rw [hX0];exact hP
 have hXP:X.P=X0.P:=by rw [hX0]
 have hsz:a.tmps.size=X.nt:=hr.size.1
 obtain⟨a0,ha0⟩:∃a0:Act,a0= { a with defers:= []}:=⟨_,rfl⟩
 obtain⟨J0,hJ0⟩:∃J0:Sy→(Nat→Prop)→World→Prop,J0=c5Q A X0 w0 bor st.H w a0:=⟨_,rfl⟩
 have toMid:∀ {sy':Sy} {st':St} {a':Act} {W:World} (ds:List Deferred),Sim A st' sy'→Rel (cx X0 w0 bor) st' a' W→a7k fz a a'→(∀d x,s7 sy'.T d=some x→d∈fz)→Fx (bs st.H) w W→(∀b,b∈bs st'.H→b∈bs st.H∨w.heap.size≤b)→∃st1,Sim A st1 sy'∧Rel (cx { X with dfs:=ds} w0 bor) st1 { a with defers:=ds} W∧st1.H=st'.H:=by
  intro sy' st' a' W ds h1 h2 h3 h4 h5 h6
  obtain⟨g1,g2⟩:=c6U (a:= { a with defers:=ds}) h1 h2 h3 (by rw [hX0];exact hsz) h4 ds rfl
  exact⟨_,g1,by rw [hX0]at g2;exact g2,rfl⟩
 --the state between two rounds,at the act behind the loop
 have toEnd:∀ {sy':Sy} {O:Nat→Prop} {W:World} (dd:Nat),J0 sy' O W→(∀d x,s7 sy'.T d=some x→d∈fz)→Mid A { X with dfs:=a7a dd::X.dfs} w0 bor st.H w { a with defers:=a7a dd::a.defers} sy' W:=by
  intro sy' O W D h hd
  rw [hJ0]at h
  obtain⟨st1,g1,g2,g3,g4,g5⟩:=h
  obtain⟨st2,e1,e2,e3⟩:=toMid (a7a D::X.dfs) g1 g2 (by rw [ha0];exact fun _ _=>rfl) hd g3 g4
  rw [show a.defers=X.dfs from hr.dfs]
  exact⟨st2,e1,e2,g3,by rw [e3];exact g4⟩
 have J0turn:∀ {sy':Sy} {O:Nat→Prop} {W W':World} {row:Option Nat},J0 sy' O W→W.grownBy W' row→(∀r,row=some r→w.heap.size≤r∧∃o:Obj,W.heap[r]?=some o∧c1h o=true)→J0 sy' O W':=by
  intro sy' O W W' row h hg hrow
  rw [hJ0]at h⊢
  obtain⟨st1,hs,hr,hf,hb,hO⟩:=h
  obtain⟨h1,h2⟩:=Sx.turn hs hr hg fun r e=>⟨Nat.le_trans hw0 (hrow r e).1,(hrow r e).2⟩
  refine⟨_,h1,h2,⟨hg.os.trans hf.os,hg.tape.trans hf.tape,hg.output.trans hf.output,Nat.le_trans hf.size hg.size,fun i hi hn=> ?_⟩,hb,hO⟩
  rw [hg.block i (Nat.lt_of_lt_of_le hi hf.size) fun e=>by have:=(hrow i e.symm).1;omega]
  exact hf.block i hi hn
 refine(wpIn_wide (n:=2)).1 (wpIn_rangeFunc ?_)
 intro fn hfn
 obtain⟨rec,hrec⟩:∃rec:LoopState→Option Code→Loop,rec=fun st pe=> { state:=st,pending:=pe,fn,tmps:=a.tmps,params:=ps,assign,body,defers:=w.heap.size}:=⟨_,rfl⟩
 obtain⟨W1,hW1⟩:∃W1,(w.alloc (.deferred (some []))).alloc (.loop (rec .ready none))=W1:=⟨_,rfl⟩
 obtain⟨L,hL⟩:∃L,L=w.heap.size+1:=⟨_,rfl⟩
 have hsize1:W1.heap.size=w.heap.size+2:=by rw [←hW1];simp
 have hL1:W1.heap[L]?=some (.loop (rec .ready none)):=by
  rw [←hW1,hL];have:=World.alloc_heap_new (w.alloc (.deferred (some []))) (.loop (rec .ready none));rwa [World.size_alloc]at this
 have hK1:W1.heap[w.heap.size]?=some (.deferred (some [])):=by
  rw [←hW1];exact(Below.heap_alloc _ _ _ (by simp)).trans (World.alloc_heap_new w _)
 have hg1:w.grownBy W1 none:=by
  rw [←hW1]
  have h1:=World.grownBy_alloc w (.deferred (some [])) none
  have h2:=World.grownBy_alloc (w.alloc (.deferred (some []))) (.loop (rec .ready none)) none
  exact⟨h2.os.trans h1.os,h2.tape.trans h1.tape,h2.output.trans h1.output,Nat.le_trans h1.size h2.size,fun k hk hn=>(h2.block k (Nat.lt_of_lt_of_le hk h1.size) hn).trans (h1.block k hk hn)⟩
 obtain⟨st0,hs0,hr0,hb0⟩:=hstart.rel hA hs hr
 have hr0':Rel (cx X0 w0 bor) st0 a0 w:=by
  rw [hX0,ha0];exact⟨hr0.size,hr0.T,rfl,⟨hr0.cls.fx,hr0.cls.fx0,hr0.cls.own,hr0.cls.nd,hr0.cls.lb,hr0.cls.keys,hr0.cls.lt⟩,hr0.lo,hr0.iv⟩
 obtain⟨O0,hO0⟩:∃O0:Nat→Prop,O0=fun b=>b∈bs st0.H∨b=L∨b=w.heap.size:=⟨_,rfl⟩
 have hJ1:J0 (f s0) O0 W1:=J0turn (row:=none) (W:=w) (by rw [hJ0,hO0];exact⟨st0,hs0,hr0',Fx.refl _ _,fun b hb=> .inl (hb0 b hb),fun b hb=> .inl hb⟩) hg1 (by simp)
 refine⟨L, [{ target:= .collected w.heap.size,args:= #[]}],W1, { target:= .fn (.func gf) vl.toArray,args:= #[.func (.yield L) #[] #[]]},W1,gf,
  #[.func (.yield L) #[] #[]]++vl.toArray,W1, ?_, ?_, ?_, ?_,fun _=>by omega, ?_⟩
 · rw [←hW1,hrec,hL];exact run_enterLoop_outer _ _ _ _ _
 · simp only [resolve,hg]
   simp [go_sem]
 · intro f' _;trivial
 · simp [invoke,go_sem,heg]
 · refine(hit (okS A (now st w)) O0 W1 vl 0 L
    (fun pre O W=>(∃s,R pre s∧J0 (f s) O W)∧O L∧O w.heap.size∧W.heap[L]?=some (.loop (rec .ready none))∧W.heap[w.heap.size]?=some (.deferred (some [])))
    (fun pre W=>∃e s O,(e= .ret∨∃id,e= .exit id)∧RX e pre s∧J0 (fx e s) O W∧W.heap[L]?=some (.loop (rec .done (some (c2j e))))∧W.heap[w.heap.size]?=some (.deferred (some [])))
    (d6.mono (fun b hb=>⟨hb,hg1.block b hb.2.1 (by simp)⟩) _ _ hcaps) ?_ ?_ ?_ ?_ ?_ ⟨⟨s0,h0,hJ1⟩,by rw [hO0];exact .inr (.inl rfl),by rw [hO0];exact .inr (.inr rfl),hL1,hK1⟩).mono ?_
   · intro b hb
     refine⟨by have:=hb.2.1;simp only [now]at this;omega,fun hO=> ?_⟩
     rw [hO0]at hO
     have h1:b<w.heap.size:=hb.2.1
     rcases hO with h|h|h
     · exact hb.2.2 b (hb0 b h) rfl
     · omega
     · omega
   · intro b hb
     rw [hO0]at hb
     rcases hb with h|h|h
     · have:=hr0.cls.lt_size h;omega
     · omega
     · omega
   · rintro pre O A B ⟨⟨s,h1,h2⟩,h3,h4,h5,h6⟩ hg
     exact⟨⟨s,h1,J0turn h2 hg (by simp)⟩,h3,h4,a6u hg h5,a6u hg h6⟩
   · rintro pre A B ⟨e,s,O,h1,h2,h3,h5,h6⟩ hg
     exact⟨e,s,O,h1,h2,J0turn h3 hg (by simp),a6u hg h5,a6u hg h6⟩
   · --a round
     rintro pre x vals O W ⟨⟨s,hR,hm⟩,hOL,hOD,hl,hk⟩ hO hpre hvals
     have hlt:L<W.heap.size:=hO L hOL
     have hxm:x∈xs:=hpre.subset (by simp)
     have hy:=run_yield (P:=X.P) (args:=vals.toArray) hl (by rw [hrec];simp [←hvals.length,hps x hxm])
     rw [hrec]at hy
     rw [hJ0]at hm
     obtain⟨st1,hs1,hr1,hf1,hb1,hO1⟩:=hm
     have hs1':=hs1.now hr1.cls
     have hr1':=hr1.now
     refine⟨fn,_,assign,body,hy,roundIn_of_wpIn hfn ?_⟩
     have hz:(ps.zip vals.toArray).foldl (fun t (p,v)=>t.setIfInBounds p v) a.tmps=b4f ps.toList vals a.tmps:=by
      rw [←b9I,←Array.foldl_toList];simp
     rw [hz]
     have hvals2:d6 (okS A (now st1 W)) (now st1 W).w x vals:=d6.mono (fun b hb=>by
      refine⟨⟨⟨.inl hb.2.1, ?_⟩,hb.2.1,fun c hc e=>hb.2.2 (e▸hO1 c hc)⟩,rfl⟩
      rcases hb.1 with h|h
      · exact h.1.2
      · exact hA b (.inl (by omega))) _ _ hvals
     obtain⟨RK,hRK,hrd⟩:=hround pre s x hpre hR
     obtain⟨st2,sy2,k2,hs2,hr2,e2⟩:=b9L _ _ vals hvals2 hrd hs1' hr1'
     have e2:st2.H=st1.H:=e2
     have hk0:a7k fz a { tmps:=b4f ps.toList vals a.tmps,defers:= []}:=fun d hd=>b7r _ _ _ (b9d hfree d hd)
     have ht0:a0.tmps=a.tmps:=by rw [ha0]
     have hd0:a0.defers= []:=by rw [ha0]
     rw [ht0,hd0]at hr2
     rw [hXP]
     refine b2C L _ fz hA hP0 assign hak st2 sy2 a _ W _ _ hk0 k2 hs2 hr2 fun e st3 sy3 a3 W3 hp hk3 hs3 hlv3 hkp3=> ?_
     cases e with
     |exit id=>exact hk3.elim
     |ret=>exact hk3.elim
     |goto l=>exact hp.elim
     |panic c=>exact hp.elim
     |outgrown=>exact hp.elim
     |normal=>
     have hkeep3:KeepsFrom w.heap.size W W3:=b7B (H:=st2.H) (w:=w) (a:=a) hr2.cls hlv3.fx
     have hl3:W3.heap[L]?=some (.loop (rec .ready none)):=hkeep3.same L _ (by omega) hl rfl
     have hk3':W3.heap[w.heap.size]?=some (.deferred (some [])):=hkeep3.same _ _ (Nat.le_refl _) hk rfl
     have hlt3:L<W3.heap.size:=(Array.getElem?_eq_some_iff.1 hl3).1
     obtain⟨W2,hW2⟩:∃W2,W2=W3.putObj L (.loop { rec .ready none with state:= .busy}):=⟨_,rfl⟩
     have hg2:W3.grownBy W2 (some L):=by rw [hW2];exact grownBy_putObj' W3 L _
     have hl2:W2.heap[L]?=some (.loop { rec .ready none with state:= .busy}):=by rw [hW2];exact World.putObj_heap_same hlt3
     have hk2:W2.heap[w.heap.size]?=some (.deferred (some [])):=by rw [hW2];exact(World.putObj_heap_other (by omega)).trans hk3'
     obtain⟨hs4,hr4⟩:=Sx.turn hs3 hlv3.rel hg2 (by intro r e;cases e;exact⟨by omega,_,hl3,rfl⟩)
     refine⟨W2,by rw [hW2];exact run_beginRound hl3 (by rw [hrec]), ?_⟩
     have hO3:∀b,b∈bs st3.H→O b∨W.heap.size≤b:=fun b hb=>by
      rcases hlv3.bs b hb with h|h
      · exact .inl (hO1 b (e2▸h))
      · exact .inr h
     have hb3:∀b,b∈bs st3.H→b∈bs st.H∨w.heap.size≤b:=fun b hb=>by
      rcases hlv3.bs b hb with h|h
      · exact hb1 b (e2▸h)
      · exact .inr (Nat.le_trans hf1.size h)
     have hfx3:Fx (bs st.H) w W3:=Fx.trans hf1 hlv3.fx (fun _ h=>h) fun i hi=>hb1 i (e2▸hi)
     have hfx2:Fx (bs st.H) w W2:=⟨hg2.os.trans hfx3.os,hg2.tape.trans hfx3.tape,hg2.output.trans hfx3.output,Nat.le_trans hfx3.size hg2.size,fun i hi hn=>by
      rw [hg2.block i (Nat.lt_of_lt_of_le hi hfx3.size) (by simp;omega)];exact hfx3.block i hi hn⟩
     refine b2C L _ fz hA hP0 body hbk _ sy3 a a3 W2 _ _ hkp3 hk3 hs4 hr4 fun e st4 sy4 a4 W4 hp hk hs4 hl4 hkp4=> ?_
     have hkeep:KeepsFrom w.heap.size W2 W4:=b7B (H:=st3.H) (w:=w) (a:=a) hr4.cls hl4.fx
     have hfx4:Fx (bs st.H) w W4:=Fx.trans hfx2 hl4.fx (fun _ h=>h) fun i hi=>hb3 i hi
     have hbs4:∀b,b∈bs st4.H→b∈bs st.H∨w.heap.size≤b:=fun b hb=>by
      rcases hl4.bs b hb with h|h
      · exact hb3 b h
      · exact .inr (Nat.le_trans hfx2.size h)
     have hl4':W4.heap[L]?=some (.loop { rec .ready none with state:= .busy}):=hkeep.same L _ (by omega) hl2 rfl
     have hk4':W4.heap[w.heap.size]?=some (.deferred (some [])):=hkeep.same _ _ (Nat.le_refl _) hk2 rfl
     have hlt4:L<W4.heap.size:=(Array.getElem?_eq_some_iff.1 hl4').1
     obtain⟨O',hO'⟩:∃O':Nat→Prop,O'=fun b=>b∈bs st4.H∨b=L∨b=w.heap.size:=⟨_,rfl⟩
     have fin:∀(jump:Option Code) {sy5:Sy},Q0 sy4 sy5→(∀d x,s7 sy5.T d=some x→d∈fz)→
      (Instr.endRound L jump).run X0.P W4= .ok (.bool jump.isNone) (W4.putObj L (.loop (rec (if jump.isNone then .ready else .done) jump)))∧
      (W4.putObj L (.loop (rec (if jump.isNone then .ready else .done) jump))).heap[L]?=some (.loop (rec (if jump.isNone then .ready else .done) jump))∧
      (W4.putObj L (.loop (rec (if jump.isNone then .ready else .done) jump))).heap[w.heap.size]?=some (.deferred (some []))∧J0 sy5 O' (W4.putObj L (.loop (rec (if jump.isNone then .ready else .done) jump))):=by
      intro jump sy5 hsub hdm
      have hrun:=run_endRound (P:=X0.P) jump hl4'
      obtain⟨st5,g1,g2,g3⟩:=hsub.rel hA hs4 hl4.rel
      obtain⟨st6,i1,i2,i3⟩:=toMid [] g1 g2 hkp4 hdm hfx4 fun b hb=>hbs4 b (g3 b hb)
      refine⟨by rw [hrec]at hrun⊢;exact hrun,World.putObj_heap_same hlt4,(World.putObj_heap_other (by omega)).trans hk4', ?_⟩
      refine J0turn (W:=W4) (row:=some L) ?_ (grownBy_putObj' W4 L _) (by intro r e;cases e;exact⟨by omega,_,hl4',rfl⟩)
      rw [hJ0]
      refine⟨st6,i1,by rw [hX0,ha0];exact i2,hfx4,by rw [i3];exact fun b hb=>hbs4 b (g3 b hb), ?_⟩
      rw [i3,hO']
      exact fun b hb=> .inl (g3 b hb)
     have hk:=hRK _ _ hk
     cases e with
     |normal=>
      obtain⟨s',q1,q2⟩:=hk
      obtain⟨f1,f2,f3,f4⟩:=fin none q2 (hdom s')
      refine⟨_,_,f1, .inl ⟨rfl,O',⟨⟨s',q1,f4⟩,by rw [hO'];exact .inr (.inl rfl),by rw [hO'];exact .inr (.inr rfl),f2,f3⟩, ?_, ?_, ?_⟩⟩
      · have h1:=hg2.size;have h2:=hkeep.size;have h3:=hkeep3.size;simp;omega
      · intro b hb
        rw [hO']at hb
        rcases hb with h|h|h
        · refine⟨by have:=hl4.rel.cls.lt_size h;simpa using this, ?_⟩
          rcases hl4.bs b h with h|h
          · exact hO3 b h
          · exact .inr (Nat.le_trans hkeep3.size (Nat.le_trans hg2.size h))
        · subst h;exact⟨by simpa using hlt4, .inl hOL⟩
        · subst h;exact⟨by simp;omega, .inl hOD⟩
      · intro b hb hn
        have hne:b≠L:=fun e=>hn (e▸hOL)
        rw [World.putObj_heap_other hne]
        have hb3':b<W3.heap.size:=Nat.lt_of_lt_of_le hb hkeep3.size
        rw [hl4.fx.block b (Nat.lt_of_lt_of_le hb3' hg2.size) fun c hc e=>by
         rcases hO3 c hc with h|h
         · exact hn (e▸h)
         · omega]
        rw [hg2.block b hb3' (by simpa using hne)]
        exact hlv3.fx.block b hb fun c hc e=>hn (e▸hO1 c (e2▸hc))
     |ret=>
      obtain⟨s',q1,q2⟩:=hk
      obtain⟨f1,f2,f3,f4⟩:=fin (some .ret) q2 (hdomx _ s')
      exact⟨_,_,f1, .inr ⟨rfl, .ret,s',O', .inl rfl,q1,f4,f2,f3⟩⟩
     |exit id=>
      obtain⟨s',q1,q2⟩:=hk
      obtain⟨f1,f2,f3,f4⟩:=fin (some (.exit id)) q2 (hdomx _ s')
      exact⟨_,_,f1, .inr ⟨rfl, .exit id,s',O', .inr ⟨id,rfl⟩,q1,f4,f2,f3⟩⟩
     |goto l=>exact hp.elim
     |panic c=>exact hp.elim
     |outgrown=>exact hp.elim
   · rintro e W2 ⟨⟨v,rfl⟩,(⟨O,⟨s,hR,hm⟩,hOL,hOD,hl,hk⟩|⟨pre,hpre,e,s,O,he,hRX,hm,hl,hk⟩)⟩
     · refine⟨none,_,by have:=run_endLoop (P:=X.P) hl (by rw [hrec];simp);rw [hrec]at this;exact this, ?_⟩
       exact hdone _ s _ (Nat.le_refl _) ((World.putObj_heap_other (by omega)).trans hk) hR (toEnd _ (J0turn hm (grownBy_putObj' W2 L _) (by intro r e;cases e;exact⟨by omega,_,hl,rfl⟩)) (hdom s))
     · refine⟨some (c2j e),_,by have:=run_endLoop (P:=X.P) hl (by rw [hrec];simp);rw [hrec]at this;exact this, ?_⟩
       rcases he with rfl|⟨id,rfl⟩
       · refine wpIn_ret ?_
         exact hstop _ .ret pre s _ (Nat.le_refl _) ((World.putObj_heap_other (by omega)).trans hk) hpre hRX (.inl rfl) (toEnd _ (J0turn hm (grownBy_putObj' W2 L _) (by intro r e;cases e;exact⟨by omega,_,hl,rfl⟩)) (hdomx _ s))
       · refine wpIn_exit ?_
         exact hstop _ (.exit id) pre s _ (Nat.le_refl _) ((World.putObj_heap_other (by omega)).trans hk) hpre hRX (.inr ⟨id,rfl⟩) (toEnd _ (J0turn hm (grownBy_putObj' W2 L _) (by intro r e;cases e;exact⟨by omega,_,hl,rfl⟩)) (hdomx _ s))
end
end Go.Sx
namespace Go.Sx
open Go Go.RowKit
structure a6B (X:Cy) (g:Operand) (ps:Array Tmp) (assign body:Code) (st:Sy) (K:Exit→Sy→Prop):Prop where
 ex:∃(gf:FuncId) (caps:List D) (xs:List (List D)) (fz:List Nat) (σ:Type) (f:σ→Sy) (fx:Exit→σ→Sy) (R:List (List D)→σ→Prop) (RX:Exit→List (List D)→σ→Prop) (s0:σ),
  evY st g=some (.fn gf [] caps)∧U0 caps=true∧a9e X.P gf caps xs∧(∀args w,(callFunc gf args).run X.P w= .ok (.enter gf args) w)∧(∀x,x∈xs→x.length=ps.size)∧Q4 fz assign=true∧Q4 fz body=true∧a8Z fz ps.toList=true∧
  Q0 st (f s0)∧R [] s0∧(∀s d x,s7 (f s).T d=some x→d∈fz)∧(∀e s d x,s7 (fx e s).T d=some x→d∈fz)∧
  (∀(pre:List (List D)) (s:σ) (x:List D),pre++ [x]<+:xs→R pre s→∃RK:Exit→Sy→Prop,(∀e sy,RK e sy→c3t f fx R RX (pre++ [x]) e sy)∧b4N { X with dfs:= []} ps.toList x (f s) fun st1=>S1 { X with dfs:= []} assign st1 (b2a { X with dfs:= []} body RK))∧
  (∀s,R xs s→K .normal (f s))∧(∀e pre s,pre<+:xs→RX e pre s→(e= .ret∨∃id,e= .exit id)→K e (fx e s))
def a7q (X:Cy):Code→Sy→(Exit→Sy→Prop)→Prop
 | .seq a b,st,K=>a7q X a st fun e st'=>match e with
  | .normal=>a7q X b st' K
  |e=>K e st'
 | .block id c,st,K=>a7q X c st fun e st'=>match e with
  | .exit j=>(match Nat.beq j id with|true=>K .normal st'|false=>K (.exit j) st')
  |e=>K e st'
 | .cond c t e,st,K=>match evY st c with
  |some (.v (.bool b))=>VIf b (a7q X t st K) (a7q X e st K)
  |_=>False
 | .scope c,st,K=>a7q X c st K
 | .rangeFunc g ps assign body,st,K=>a6B X g ps assign body st K
 |c,st,K=>∀ds,S1 { X with dfs:=ds} c st K
def a9R (ds ds':List Deferred) (w w':World):Prop:=∃l:List Nat,ds'=l.map a7a++ds∧l.Nodup∧∀D,D∈l→w.heap.size≤D∧w'.heap[D]?=some (.deferred (some []))
theorem a9R.refl (ds:List Deferred) (w w':World):a9R ds ds w w':=⟨[],rfl,by simp,by simp⟩
section
variable {A : Nat → Prop} {X : Cy} {w0 : World} {bor : List Nat}
theorem c4S {H:Hp} {nk:Nat} {ws w:World} {D:Nat} {o:Obj} (hc:Cls (cx X w0 bor) H nk ws w) (hD:w.heap[D]?=some o) (ho:o.isCells=false):∀b,b∈bs H→b≠D:=by
 intro b hb e
 subst e
 obtain⟨j,e,he,hbe⟩:=A7.1 hb
 obtain⟨cs,t,f,hcl⟩:=a7W (hc.own j e he) hbe
 rw [hcl]at hD;cases hD;simp [Obj.isCells]at ho
theorem a9R.trans {X1:Cy} {ds ds1 ds2:List Deferred} {H:Hp} {nk:Nat} {ws w w1 w2:World} (h:a9R ds ds1 w w1) (k:a9R ds1 ds2 w1 w2) (hc:Cls (cx X1 w0 bor) H nk ws w1) (hf:Fx (bs H) w1 w2) (hw:w.heap.size≤w1.heap.size):a9R ds ds2 w w2:=by
 obtain⟨l,rfl,hn,hl⟩:=h
 obtain⟨r,rfl,hm,hr⟩:=k
 have hlt:∀D,D∈l→D<w1.heap.size:=fun D hD=>(Array.getElem?_eq_some_iff.1 (hl D hD).2).1
 refine⟨r++l,by simp, ?_,fun D hD=> ?_⟩
 · rw [List.nodup_append]
   refine⟨hm,hn,fun x hx y hy e=> ?_⟩
   subst e
   have:=(hr x hx).1;have:=hlt x hy;omega
 · rcases List.mem_append.1 hD with h|h
   · exact⟨Nat.le_trans hw (hr D h).1,(hr D h).2⟩
   · refine⟨(hl D h).1, ?_⟩
     rw [hf.block D (hlt D h) (c4S hc (hl D h).2 rfl)]
     exact(hl D h).2
theorem Lv.hop {X1 X2:Cx} {H:Hp} {w w1 w2:World} {st1 st2:St} {a1 a2:Act} (h:Lv X1 H w st1 a1 w1) (k:Lv X2 st1.H w1 st2 a2 w2):Lv X2 H w st2 a2 w2:=
 ⟨k.rel,Fx.trans h.fx k.fx (fun _ h=>h) fun i hi=>h.bs i hi,fun b hb=>by
  rcases k.bs b hb with h1|h1
  · exact h.bs b h1
  · exact .inr (Nat.le_trans h.fx.size h1)⟩
theorem c3Q (hA:∀b,(w0.heap.size≤b∨b∈bor)→A b) (hP:POK X.P X.tt) (c:Code):∀(st:St) (sy:Sy) (a:Act) (w:World) (ds:List Deferred) (K:Exit→Sy→Prop) (Q:Exit→Act→World→Prop),a7q X c sy K→Sim A st sy→Rel (cx { X with dfs:=ds} w0 bor) st a w→
 (∀e st' sy' a' w' ds',plain e→K e sy'→Sim A st' sy'→Lv (cx { X with dfs:=ds'} w0 bor) st.H w st' a' w'→a9R ds ds' w w'→Q e a' w')→c.wp X.P Q a w:=by
 have plainC:∀(c:Code) (st:St) (sy:Sy) (a:Act) (w:World) (ds:List Deferred) (K:Exit→Sy→Prop) (Q:Exit→Act→World→Prop),(∀ds,S1 { X with dfs:=ds} c sy K)→Sim A st sy→Rel (cx { X with dfs:=ds} w0 bor) st a w→
  (∀e st' sy' a' w' ds',plain e→K e sy'→Sim A st' sy'→Lv (cx { X with dfs:=ds'} w0 bor) st.H w st' a' w'→a9R ds ds' w w'→Q e a' w')→c.wp X.P Q a w:=
  fun c st sy a w ds K Q h hs hr hQ=>a3M (X:= { X with dfs:=ds}) hA hP c st sy a w K Q (h ds) hs hr fun e st' sy' a' w' hp hk hs' hl=>hQ e st' sy' a' w' ds hp hk hs' hl (a9R.refl _ _ _)
 induction c with
 |seq x y ihx ihy=>
  intro st sy a w ds K Q h hs hr hQ
  refine wp_seq (ihx st sy a w ds _ _ h hs hr fun e st1 sy1 a1 w1 ds1 hp hk hs1 hl hm=> ?_)
  cases e with
  |normal=>exact ihy st1 sy1 a1 w1 ds1 K Q hk hs1 hl.rel fun e st2 sy2 a2 w2 ds2 hp hk2 hs2 hl2 hm2=>hQ e st2 sy2 a2 w2 ds2 hp hk2 hs2 (Lv.hop hl hl2) (hm.trans hm2 hl.rel.cls hl2.fx hl.fx.size)
  |exit id=>exact hQ _ _ _ _ _ _ hp hk hs1 hl hm
  |ret=>exact hQ _ _ _ _ _ _ hp hk hs1 hl hm
  |goto l=>exact hp.elim
  |panic c=>exact hp.elim
  |outgrown=>exact hp.elim
 |block id c ih=>
  intro st sy a w ds K Q h hs hr hQ
  refine wp_block (ih st sy a w ds _ _ h hs hr fun e st1 sy1 a1 w1 ds1 hp hk hs1 hl hm=> ?_)
  cases e with
  |normal=>exact hQ _ _ _ _ _ _ hp hk hs1 hl hm
  |exit j=>
   simp only [Exit.inBlock]
   simp only at hk
   split at hk
   · rename_i hb
     rw [if_pos (w4 hb)]
     exact hQ .normal _ _ _ _ _ trivial hk hs1 hl hm
   · rename_i hb
     rw [if_neg (a2V hb)]
     exact hQ _ _ _ _ _ _ hp hk hs1 hl hm
  |ret=>exact hQ _ _ _ _ _ _ hp hk hs1 hl hm
  |goto l=>exact hp.elim
  |panic c=>exact hp.elim
  |outgrown=>exact hp.elim
 |cond c x y ihx ihy=>
  intro st sy a w ds K Q h hs hr hQ
  simp only [a7q]at h
  split at h
  · rename_i b hcd
    obtain⟨s,h1,h2,_⟩:=j5 hs hcd
    have:=h2.sc;subst this
    have hb:a.eval c= .bool b:=by simpa [den]using (hr.ev c _ h1).2
    cases b with
    |true=>exact wp_cond_true hb (ihx st sy a w ds K Q h hs hr hQ)
    |false=>exact wp_cond_false hb (ihy st sy a w ds K Q h hs hr hQ)
  · exact h.elim
 |scope c ih=>
  intro st sy a w ds K Q h hs hr hQ
  simp only [a7q]at h
  refine wp_scope_straight (ih st sy a w ds K _ h hs hr fun e st1 sy1 a1 w1 ds1 hp hk hs1 hl hm=> ?_)
  cases e with
  |normal=>exact hQ _ _ _ _ _ _ hp hk hs1 hl hm
  |exit j=>exact hQ _ _ _ _ _ _ hp hk hs1 hl hm
  |ret=>exact hQ _ _ _ _ _ _ hp hk hs1 hl hm
  |goto l=>exact hp.elim
  |panic c=>exact hp.elim
  |outgrown=>exact hp.elim
 |rangeFunc g ps assign body _ _=>
  intro st sy a w ds K Q h hs hr hQ
  have h:a6B X g ps assign body sy K:=h
  obtain⟨gf,caps,xs,fz,σ,f,fx,R,RX,s0,hg,hcl,hit,heg,hps,hasg,hbk,hfree,hst,h0,hdom,hdomx,hround,hdone,hstop⟩:=h.ex
  obtain⟨s,h1,h2,_⟩:=j5 hs hg
  have hev:=(hr.ev g _ h1).2
  have h2':=c6.mono (a5G hr.cls) (fun _ _ h=>h) _ _ h2
  have hrep:=a4s (H:=st.H) _ _ h2' (by simpa [a0F,U0]using hcl)
  simp only [Rep]at hrep
  obtain⟨p,q,e1,e2,e3⟩:=hrep
  have hp0:p= #[]:=by
   cases hp:p.toList with
   |nil=>exact Array.toList_inj.1 (by simp [hp])
   |cons v l=>rw [hp]at e2;simp [d6]at e2
  refine c3C (X:= { X with dfs:=ds}) hA hP hs hr (vl:=q.toList) (by rw [hev,e1,hp0]) e3 hit heg hps hasg hbk hfree f fx R RX s0 hst h0 hdom hdomx hround (fun D s W hD hdef hR hm=> ?_) fun D e pre s W hD hdef hpre hRX he hm=> ?_
  · obtain⟨st1,g1,g2,g3,g4⟩:=hm.ex
    exact hQ .normal st1 _ _ W _ trivial (hdone s hR) g1 ⟨g2,g3,g4⟩ ⟨[D],rfl,by simp,by simpa using ⟨hD,hdef⟩⟩
  · obtain⟨st1,g1,g2,g3,g4⟩:=hm.ex
    exact hQ e st1 _ _ W _ (by rcases he with rfl|⟨id,rfl⟩<;>trivial) (hstop e pre s hpre hRX he) g1 ⟨g2,g3,g4⟩ ⟨[D],rfl,by simp,by simpa using ⟨hD,hdef⟩⟩
 |_=>exact plainC _
end
end Go.Sx
namespace Go.Sx
open Go Go.RowKit
theorem b3M {X:Cy} {ds:List Deferred} {st:Sy}:∀rs:List ResultVar,a1m { X with dfs:=ds} st rs=a1m X st rs
 | []=>rfl
 | .tmp t::r=>by simp only [a1m,b3M r]
 | .cell a t::r=>by simp only [a1m,b3M r]
section
variable {A : Nat → Prop} {X : Cy} {w0 : World} {bor : List Nat} {sy : Sy} {a : Act}
theorem b4T (hA:∀b,(w0.heap.size≤b∨b∈bor)→A b) (hP:POK X.P X.tt) {fn:Func} {Qr:D→Prop} {Rr:Ending→World→Prop} {n:Nat} {ds:List Deferred}
 (hk:match a1m X sy fn.results.toList with
  |some [s]=>a2n sy s Qr
  |some l=>a2n sy (.tup l) Qr
  |none=>False)
 (hR:∀v r w',Qr r→Rep (fun b=>A b∧b<w'.heap.size) w' r v→Fx bor w0 w'→Rr (.returned v) w'):∀(l:List Nat) (st:St) (W:World),Sim A st sy→Rel (cx { X with dfs:=ds} w0 bor) st a W→l.Nodup→(∀D,D∈l→w0.heap.size≤D∧W.heap[D]?=some (.deferred (some [])))→
 LeavesInM Fence.wide n X.P fn a.tmps Rr (l.map a7a) .returning W
 | [],st,W,hs,hr,_,_=>by
  have main:∀ {r:D} {s:SV},a2n sy r Qr→c6 (okS A st) st.w (B1 st) r s→(results fn a.tmps).run X.P W= .ok (den st.H s) W→∃v,(results fn a.tmps).run X.P W= .ok v W∧Rr (.returned v) W:=by
   intro r s hret hrel hrun
   obtain⟨r',hq,hrp⟩:=b0g hA hret hs hr hrel
   exact⟨_,hrun,hR _ _ _ hq hrp hr.cls.fx0⟩
  show∃v,(results fn a.tmps).run X.P W= .ok v W∧Rr (.returned v) W
  cases hres:a1m X sy fn.results.toList with
  |none=>rw [hres]at hk;exact hk.elim
  |some l=>
   rw [hres]at hk
   rw [←b3M (ds:=ds)]at hres
   obtain⟨l',h1,h2⟩:=a3I (X:= { X with dfs:=ds}) (w0:=w0) (bor:=bor) hs hres
   have hrun:=a1U (X:=cx { X with dfs:=ds} w0 bor) hP.tt hr h1
   match l,l',h2,hk,hrun with
   | [s], [s'],h2,hk,hrun=>exact main hk h2.1 hrun
   | [], [],h2,hk,hrun=>exact main (s:= .tup []) hk (by simp only [c6];exact .inl ⟨[],rfl,trivial⟩) (by simpa [den,a8u,cx]using hrun)
   |x::y::l,x'::y'::l',h2,hk,hrun=>exact main (s:= .tup (x'::y'::l')) hk (by simp only [c6];exact .inl ⟨_,rfl,h2⟩) (by simpa [den,a8u,cx]using hrun)
   | [],_::_,h2,_,_=>simp [c5]at h2
   | [_], [],h2,_,_=>simp [c5]at h2
   | [_],_::_::_,h2,_,_=>simp [c5]at h2
   |_::_::_, [],h2,_,_=>simp [c5]at h2
   |_::_::_, [_],h2,_,_=>simp [c5]at h2
 |D::l,st,W,hs,hr,hn,hl=>by
  obtain⟨h1,h2⟩:=hl D List.mem_cons_self
  rw [List.nodup_cons]at hn
  refine⟨by simp, .inl ⟨D,_,rfl,run_takeDeferred h2, ?_⟩⟩
  obtain⟨g1,g2⟩:=turn hs hr (grownBy_putObj' W D (.deferred none)) fun r e=>by cases e;exact⟨h1,_,h2,rfl⟩
  refine b4T hA hP hk hR l _ _ g1 g2 hn.2 fun D' hD'=>⟨(hl D' (List.mem_cons_of_mem _ hD')).1, ?_⟩
  have hne:D'≠D:=fun e=>hn.1 (by rw [←e];exact hD')
  rw [World.putObj_heap_other (by first|exact hne|exact hne.symm)]
  exact(hl D' (List.mem_cons_of_mem _ hD')).2
end
theorem c5t {X:Cy} (hP:POK X.P X.tt) {f:FuncId} {fn:Func} {c:Code} (args:List D) {Qr:D→Prop} (hf:X.P.funcs[f]?=some fn) (hb:fn.body=some c) (hn:X.nt=fn.ntmps) (hl:args.length≤fn.ntmps)
 (h:a7q X c ⟨a2z 0 args, [],0⟩ (b9z X fn.results.toList Qr)) (hg:fn.ntmps≤N8:=by exact Nat.le_of_ble_eq_true rfl):d7 X.P f args Qr:=by
 intro ok w vl hrep hok
 have hA:∀b,(w.heap.size≤b∨b∈([]:List Nat))→(fun b=>b<w.heap.size→ok b) b:=fun b hb h=>by
  rcases hb with hb|hb
  · omega
  · cases hb
 refine(callsIn_wide (n:=2)).1 (callsIn_of_wp_marks hf hb trivial (wpIn_wide.2 (c3Q (A:=fun b=>b<w.heap.size→ok b) (w0:=w) (bor:= []) hA hP c ⟨a4c 0 (vs vl), [],0,w,w.heap.size, []⟩ ⟨a2z 0 args, [],0⟩ _ _ [] _ _ h ?_ ?_ fun e st' sy' a' w' ds' hp hk hs' hlv hm=> ?_)) rfl)
 · refine⟨fun d x hx=> ?_,fun k e he=>by simp [j3]at he,rfl,fun j _=>a3o,fun _ _=>rfl⟩
   obtain⟨_,h2⟩:=a2q hx
   obtain⟨y,h3,h4⟩:=hrep.get h2
   right
   refine⟨.v y,a4w (Nat.zero_le _) ?_,Rep.rel _ _ (Rep.mono (fun b hb=>⟨⟨⟨.inl (hok b hb),fun _=>hb⟩,hok b hb,fun c hc=>by simp [bs]at hc⟩,rfl⟩) _ _ h4)⟩
   rw [a7B,h3];rfl
 · refine⟨by simp [cx,hn,←hrep.length];omega,fun d s hs=> ?_,rfl,Cls.nil (cx { X with dfs:= []} w []) 0,Nat.le_refl _,by simp⟩
   obtain⟨_,h2⟩:=a2r (n:=0) hs
   simp only [Nat.sub_zero]at h2
   rw [a7B]at h2
   cases hv:vl[d]? with
   |none=>rw [hv]at h2;cases h2
   |some y=>
    rw [hv]at h2
    cases h2
    right
    have hlt:=(List.getElem?_eq_some_iff.1 hv).1
    rw [P7,if_pos (by have:=hrep.length;omega),Array.getElem?_append_left (by simpa using hlt)]
    simpa [den]using hv
 · obtain⟨l,rfl,hnd,hD⟩:=hm
   have fin:(match a1m X sy' fn.results.toList with
    |some [s]=>a2n sy' s Qr
    |some l=>a2n sy' (.tup l) Qr
    |none=>False)→LeavesInM Fence.wide 2 X.P fn a'.tmps (fun e w'=>∃v r,e= .returned v∧Qr r∧Rep (fun b=>ok b∨(w.heap.size≤b∧b<w'.heap.size)) w' r v∧Below w.heap.size w w') a'.defers .returning w':=by
    intro hk
    rw [show a'.defers=l.map a7a from by rw [show a'.defers=_ from hlv.rel.dfs];simp [cx]]
    refine b4T hA hP hk (fun v r w' hq hrp hfx=>⟨v,r,rfl,hq,Rep.mono (fun b hb=>⟨?_,rfl⟩) _ _ hrp,hfx.below⟩) l st' w' hs' hlv.rel hnd hD
    by_cases hlt:b<w.heap.size
    · exact .inl (hb.1 hlt)
    · exact .inr ⟨by omega,hb.2⟩
   cases e with
   |normal=>exact fin hk
   |ret=>exact fin hk
   |exit id=>exact hk.elim
   |goto l=>exact hp.elim
   |panic c=>exact hp.elim
   |outgrown=>exact hp.elim
end Go.Sx
namespace Go.Sx
open Go Go.RowKit
def a7Y (ops:Array Oper) (m i:Nat):Bool:=match ops[m]? with
 |some o=>o.after.toList.any fun e=>Region.binds .any e&&Nat.beq e.on i
 |none=>false
def b6s (ops:Array Oper):Bool:=(List.range ops.size).all fun m=>match ops[m]? with
 |some o=>o.after.toList.all fun e=> !Region.binds .any e||Nat.blt e.on m
 |none=>true
def c7t (ops:Array Oper) (j:Nat):Bool:=(List.range j).all fun i=>(List.range (j+1)).any fun m=>Nat.blt i m&&a7Y ops m i
def c2U (ops:Array Oper) (j:Nat):Bool:=(List.range ops.size).all fun k=>Nat.ble k j||a7Y ops k (k-1)
def c4E (ops:Array Oper) (j:Nat):Bool:=(List.range j).all fun i=>match ops[i]? with
 |some o=>match o.guard with|some (g,_)=>Nat.blt g j|none=>true
 |none=>true
def a8e (ops:Array Oper) (j:Nat):Bool:=b6s ops&&(c7t ops j&&(c2U ops j&&(c4E ops j&&Nat.blt j ops.size)))
theorem b0M {ops:Array Oper} {m i:Nat}:a7Y ops m i=true↔∃o e,ops[m]?=some o∧e∈o.after.toList∧Region.binds .any e=true∧e.on=i:=by
 unfold a7Y
 constructor
 · intro h
   split at h
   · rename_i o ho
     obtain⟨e,h1,h2⟩:=List.any_eq_true.1 h
     simp only [Bool.and_eq_true]at h2
     exact⟨o,e,ho,h1,h2.1,w4 h2.2⟩
   · cases h
 · rintro⟨o,e,ho,h1,h2,h3⟩
   rw [ho]
   exact List.any_eq_true.2 ⟨e,h1,by simp [h2,h3]⟩
theorem b6U {ops:Array Oper} (h:b6s ops=true) {m i:Nat} (hb:a7Y ops m i=true):i<m∧m<ops.size:=by
 obtain⟨o,e,ho,h1,h2,h3⟩:=b0M.1 hb
 have hm:m<ops.size:=(Array.getElem?_eq_some_iff.1 ho).1
 have h4:=List.all_eq_true.1 h m (List.mem_range.2 hm)
 rw [ho]at h4
 have h5:=List.all_eq_true.1 h4 e h1
 simp [h2]at h5
 exact⟨by omega,hm⟩
theorem a4i {ops:Array Oper} {listed:Array Bool} (hsz:listed.size=ops.size) {i:Nat}:i∈Region.ready .any ops listed↔i<ops.size∧listed[i]?=some false∧∀k,a7Y ops i k=true→listed[k]?=some true:=by
 unfold Region.ready
 rw [List.mem_filter,List.mem_range]
 constructor
 · rintro⟨h1,h2⟩
   simp only [Bool.and_eq_true]at h2
   have hl:i<listed.size:=by omega
   refine⟨h1,by simpa [Array.getD,hl]using h2.1,fun k hk=> ?_⟩
   obtain⟨o,e,ho,g1,g2,g3⟩:=b0M.1 hk
   rw [ho]at h2
   have:=h2.2
   simp only [Option.map_some,Option.getD_some]at this
   rw [←Array.all_toList]at this
   have:=List.all_eq_true.1 this e g1
   simp only [g2,Bool.not_true,Bool.false_or,g3]at this
   by_cases hkl:k<listed.size
   · simpa [Array.getD,hkl]using this
   · simp [Array.getD,hkl]at this
 · rintro⟨h1,h2,h3⟩
   refine⟨h1, ?_⟩
   have hl:i<listed.size:=by omega
   rw [Array.getElem?_eq_getElem hl]at h2
   simp only [Bool.and_eq_true]
   refine⟨by simp [Array.getD,hl];simpa using h2, ?_⟩
   rw [Array.getElem?_eq_getElem h1]
   simp only [Option.map_some,Option.getD_some]
   rw [←Array.all_toList]
   refine List.all_eq_true.2 fun e he=> ?_
   cases hb:Region.binds .any e with
   |false=>rfl
   |true=>
    have:=h3 e.on (b0M.2 ⟨_,e,Array.getElem?_eq_getElem h1,he,hb,rfl⟩)
    obtain⟨hk,hv⟩:=Array.getElem?_eq_some_iff.1 this
    simp [Array.getD,hk,hv]
def c3y (ops:Array Oper) (listed:Array Bool):Prop:=∀m i,listed[m]?=some true→a7Y ops m i=true→listed[i]?=some true
theorem c3y.set {ops:Array Oper} {listed:Array Bool} (hsz:listed.size=ops.size) (h:c3y ops listed) {i:Nat} (hi:i∈Region.ready .any ops listed):c3y ops (listed.setIfInBounds i true):=by
 obtain⟨h1,_,h3⟩:=(a4i hsz).1 hi
 intro m k hm hk
 by_cases hki:i=k
 · subst hki;simp [Array.getElem?_setIfInBounds_self,hsz,h1]
 · rw [Array.getElem?_setIfInBounds_ne hki]
   by_cases hmi:i=m
   · subst hmi;exact h3 k hk
   · rw [Array.getElem?_setIfInBounds_ne hmi]at hm
     exact h m k hm hk
theorem b1V {ops:Array Oper} (hb:b6s ops=true) {listed:Array Bool} (hsz:listed.size=ops.size) (h:Region.ready .any ops listed= []):∀i,i<ops.size→listed[i]?=some true:=by
 intro i
 induction i using Nat.strongRecOn with
 |ind i ih=>
  intro hi
  have hl:i<listed.size:=by omega
  rw [Array.getElem?_eq_getElem hl]
  cases hv:listed[i]with
  |true=>rfl
  |false=>
   exfalso
   have:i∈Region.ready .any ops listed:=(a4i hsz).2 ⟨hi,by rw [Array.getElem?_eq_getElem hl,hv],fun k hk=>by
    obtain⟨hlt,_⟩:=b6U hb hk
    exact ih k hlt (by omega)⟩
   rw [h]at this;cases this
section
variable {P : Program} {n : Nat} {ops : Array Oper} {Q : Exit → Act → World → Prop}
theorem b3D (hb:b6s ops=true) {j:Nat} (hp:c2U ops j=true):∀(r m fuel:Nat) (listed:Array Bool) (a:Act) (w:World),m+r=ops.size→j<m→listed.size=ops.size→(∀i,i<m→listed[i]?=some true)→(∀i,m≤i→i<ops.size→listed[i]?=some false)→r≤fuel→
 wpListIn Fence.wide n P ops Q (ops.toList.drop m) a w→wpAnyIn Fence.wide n P .any ops Q fuel listed a w
 |0,m,fuel,listed,a,w,hm,hj,hsz,h1,h2,hf,h=>by
  have hnil:Region.ready .any ops listed= []:=List.eq_nil_iff_forall_not_mem.2 fun i hi=>by
   obtain⟨g1,g2,_⟩:=(a4i hsz).1 hi
   rw [h1 i (by omega)]at g2;cases g2
  rw [List.drop_of_length_le (by simp;omega)]at h
  cases fuel with
  |zero=>exact⟨hnil,h⟩
  |succ fuel=>exact⟨fun _=>h,fun i hi=>by rw [hnil]at hi;cases hi⟩
 |r+1,m,0,listed,a,w,hm,hj,hsz,h1,h2,hf,h=>by omega
 |r+1,m,fuel+1,listed,a,w,hm,hj,hsz,h1,h2,hf,h=>by
  have hlt:m<ops.size:=by omega
  have hrd:∀i,i∈Region.ready .any ops listed→i=m:=by
   intro i hi
   obtain⟨g1,g2,g3⟩:=(a4i hsz).1 hi
   rcases Nat.lt_trichotomy i m with h|h|h
   · rw [h1 i h]at g2;cases g2
   · exact h
   · exfalso
     have hk:=List.all_eq_true.1 hp i (List.mem_range.2 g1)
     have hnb:Nat.ble i j=false:=by cases hx:Nat.ble i j with|false=>rfl|true=>have:=Nat.le_of_ble_eq_true hx;omega
     rw [hnb,Bool.false_or]at hk
     have:=g3 _ hk
     rw [h2 (i-1) (by omega) (by omega)]at this;cases this
  refine⟨fun hnil=> ?_,fun i hi=> ?_⟩
  · have:=b1V hb hsz hnil m hlt
    rw [h2 m (Nat.le_refl _) hlt]at this;cases this
  · obtain rfl:=hrd i hi
    have hd:ops.toList.drop i=ops[i]::ops.toList.drop (i+1):=by
     rw [List.drop_eq_getElem_cons (by simpa using hlt)];simp
    rw [hd]at h
    simp only [wpListIn]at h
    unfold wpOpIn
    rw [Array.getElem?_eq_getElem hlt]
    simp only
    have goOn:∀a w,wpListIn Fence.wide n P ops Q (ops.toList.drop (i+1)) a w→wpAnyIn Fence.wide n P .any ops Q fuel (listed.setIfInBounds i true) a w:=by
     intro a w h
     refine b3D hb hp r (i+1) fuel _ a w (by omega) (by omega) (by simpa using hsz) (fun k hk=> ?_) (fun k hk hk2=> ?_) (by omega) h
     · by_cases e:i=k
       · subst e;simp [Array.getElem?_setIfInBounds_self,hsz,hlt]
       · rw [Array.getElem?_setIfInBounds_ne e];exact h1 k (by omega)
     · rw [Array.getElem?_setIfInBounds_ne (by omega)];exact h2 k (by omega) hk2
    split at h
    · rename_i hw;rw [if_pos hw];exact Oper.wpIn_mono goOn h
    · rename_i hw;rw [if_neg hw];exact⟨h.1,goOn _ _ h.2⟩
theorem c4n {j:Nat} (hc:a8e ops j=true) {K:Act→World→Prop} (hK:∀a w,K a w→wpListIn Fence.wide n P ops Q (ops.toList.drop j) a w):
 ∀(fuel fuel2:Nat) (ls listed:Array Bool) (a:Act) (w:World),ls.size=j→listed.size=ops.size→(∀i,i<j→listed[i]?=ls[i]?)→(∀i,j≤i→i<ops.size→listed[i]?=some false)→c3y ops listed→fuel+(ops.size-j)≤fuel2→
 wpAnyIn Fence.wide n P .any (ops.extract 0 j) (fun e a w=>e= .normal∧K a w) fuel ls a w→wpAnyIn Fence.wide n P .any ops Q fuel2 listed a w:=by
 simp only [a8e,Bool.and_eq_true]at hc
 obtain⟨hb,hpre,hpost,hgd,hjs⟩:=hc
 have hjs:j<ops.size:=Nat.blt_eq.mp hjs|>fun h=>h
 have hget:∀i,i<j→(ops.extract 0 j)[i]?=ops[i]?:=fun i hi=>by
  rw [Array.getElem?_extract];simp;omega
 have hwt:∀i k,i<j→a7Y (ops.extract 0 j) i k=a7Y ops i k:=fun i k hi=>by unfold a7Y;rw [hget i hi]
 have hsz':(ops.extract 0 j).size=j:=by simp;omega
 --when j is ready,all ahead of it are listed
 have hall:∀(listed:Array Bool),listed.size=ops.size→c3y ops listed→((∀k,a7Y ops j k=true→listed[k]?=some true))→∀i,i<j→listed[i]?=some true:=by
  intro listed hsz hd hr i
  induction hr':j-i using Nat.strongRecOn generalizing i with
  |ind r ih=>
   intro hi
   have hx:=List.all_eq_true.1 hpre i (List.mem_range.2 hi)
   obtain⟨m,hm,hy⟩:=List.any_eq_true.1 hx
   simp only [Bool.and_eq_true,Nat.blt_eq,List.mem_range]at hy hm
   by_cases e:m=j
   · subst e;exact hr i hy.2
   · exact hd m i (ih (j-m) (by omega) m rfl (by omega)) hy.2
 --none behind j is ready as long as j is not listed
 have hnot:∀(listed:Array Bool),listed.size=ops.size→(∀i,j≤i→i<ops.size→listed[i]?=some false)→∀i,i∈Region.ready .any ops listed→i≤j:=by
  intro listed hsz h2 i hi
  obtain⟨g1,g2,g3⟩:=(a4i hsz).1 hi
  apply Nat.le_of_not_lt
  intro hlt
  have hk:=List.all_eq_true.1 hpost i (List.mem_range.2 g1)
  have hnb:Nat.ble i j=false:=by cases hx:Nat.ble i j with|false=>rfl|true=>have:=Nat.le_of_ble_eq_true hx;omega
  rw [hnb,Bool.false_or]at hk
  have:=g3 _ hk
  rw [h2 (i-1) (by omega) (by omega)]at this;cases this
 intro fuel
 induction fuel with
 |zero=>
  intro fuel2 ls listed a w hls hsz hsame hfalse hdown hf h
  obtain⟨hnil,_,hk⟩:=h
  have hl:=b1V (ops:=ops.extract 0 j) (by
   refine List.all_eq_true.2 fun m hm=> ?_
   rw [List.mem_range,hsz']at hm
   rw [hget m hm]
   exact List.all_eq_true.1 hb m (List.mem_range.2 (by omega))) (by omega) hnil
  have h1:∀i,i<j→listed[i]?=some true:=fun i hi=>by rw [hsame i hi];exact hl i (by omega)
  cases fuel2 with
  |zero=>omega
  |succ fuel2=>
   refine⟨fun hn=> ?_,fun i hi=> ?_⟩
   · have:=b1V hb hsz hn j hjs
     rw [hfalse j (Nat.le_refl _) hjs]at this;cases this
   · have hij:=hnot listed hsz hfalse i hi
     obtain⟨g1,g2,g3⟩:=(a4i hsz).1 hi
     have hie:i=j:=by
      rcases Nat.lt_or_ge i j with h|h
      · rw [h1 i h]at g2;cases g2
      · omega
     subst hie
     have h:=hK a w hk
     have hd:ops.toList.drop i=ops[i]::ops.toList.drop (i+1):=by
      rw [List.drop_eq_getElem_cons (by simpa using hjs)];simp
     rw [hd]at h
     simp only [wpListIn]at h
     unfold wpOpIn
     rw [Array.getElem?_eq_getElem hjs]
     simp only
     have goOn:∀a w,wpListIn Fence.wide n P ops Q (ops.toList.drop (i+1)) a w→wpAnyIn Fence.wide n P .any ops Q fuel2 (listed.setIfInBounds i true) a w:=by
      intro a w h
      refine b3D hb hpost (ops.size-(i+1)) (i+1) fuel2 _ a w (by omega) (by omega) (by simpa using hsz) (fun k hk=> ?_) (fun k hk hk2=> ?_) (by omega) h
      · by_cases e:i=k
        · subst e;simp [Array.getElem?_setIfInBounds_self,hsz,hjs]
        · rw [Array.getElem?_setIfInBounds_ne e];exact h1 k (by omega)
      · rw [Array.getElem?_setIfInBounds_ne (by omega)];exact hfalse k (by omega) hk2
     split at h
     · rename_i hw;rw [if_pos hw];exact Oper.wpIn_mono goOn h
     · rename_i hw;rw [if_neg hw];exact⟨h.1,goOn _ _ h.2⟩
 |succ fuel ih=>
  intro fuel2 ls listed a w hls hsz hsame hfalse hdown hf h
  obtain⟨h0,h1⟩:=h
  cases fuel2 with
  |zero=>omega
  |succ fuel2=>
   refine⟨fun hn=> ?_,fun i hi=> ?_⟩
   · have:=b1V hb hsz hn j hjs
     rw [hfalse j (Nat.le_refl _) hjs]at this;cases this
   · have hij:=hnot listed hsz hfalse i hi
     obtain⟨g1,g2,g3⟩:=(a4i hsz).1 hi
     rcases Nat.lt_or_ge i j with hlt|hge
     · --ahead of j
       have hi':i∈Region.ready .any (ops.extract 0 j) ls:=(a4i (by omega)).2 ⟨by omega,by rw [←hsame i hlt];exact g2,fun k hk=>by
        rw [hwt i k hlt]at hk
        have hkl:=(b6U hb hk).1
        rw [←hsame k (by omega)];exact g3 k hk⟩
       have hop:=h1 i hi'
       unfold wpOpIn at hop⊢
       rw [hget i hlt,Array.getElem?_eq_getElem g1]at hop
       rw [Array.getElem?_eq_getElem g1]
       simp only at hop⊢
       have hyl:Region.wanted ops[i] (yielded (ops.extract 0 j) a.tmps)=Region.wanted ops[i] (yielded ops a.tmps):=by
        have hx:=List.all_eq_true.1 hgd i (List.mem_range.2 hlt)
        rw [Array.getElem?_eq_getElem g1]at hx
        simp only at hx
        unfold Region.wanted
        cases hg:ops[i].guard with
        |none=>rfl
        |some p=>
         obtain⟨g,b⟩:=p
         rw [hg]at hx
         simp only [Nat.blt_eq]at hx
         simp only [yielded,hget g hx]
       rw [hyl]at hop
       have goOn:∀a w,wpAnyIn Fence.wide n P .any (ops.extract 0 j) (fun e a w=>e= .normal∧K a w) fuel (ls.setIfInBounds i true) a w→wpAnyIn Fence.wide n P .any ops Q fuel2 (listed.setIfInBounds i true) a w:=by
        intro a w h
        refine ih fuel2 _ _ a w (by simpa using hls) (by simpa using hsz) (fun k hk=> ?_) (fun k hk hk2=> ?_) (hdown.set hsz hi) (by omega) h
        · by_cases e:i=k
          · subst e;simp [Array.getElem?_setIfInBounds_self,hsz,g1,hls,hlt]
          · rw [Array.getElem?_setIfInBounds_ne e,Array.getElem?_setIfInBounds_ne e];exact hsame k hk
        · rw [Array.getElem?_setIfInBounds_ne (by omega)];exact hfalse k hk hk2
       split at hop
       · rename_i hw
         rw [if_pos hw]
         have h2:=Oper.wpIn_mono goOn hop
         unfold Oper.wpIn at h2⊢
         refine⟨h2.1, ?_⟩
         have h3:=h2.2
         generalize (ops[i].semAt Fence.wide.round a.eval).run P w=r at*
         cases r with
         |ok x w'=>
          cases x with
          |value v=>exact h3
          |skip=>exact h3
          |defer d=>exact h3
          |enter f args=>
           refine⟨h3.1,h3.2.mono fun e w'' he=> ?_⟩
           cases e with
           |returned v=>exact he
           |panicked c=>obtain⟨he,_⟩:=he;cases he
           |outgrown=>obtain⟨a,w,he,_⟩:=he;cases he
          |row row args=>exact h3
          |round l f tmps assign body=>
           refine⟨h3.1,h3.2.mono fun e w'' he=> ?_⟩
           cases e with
           |returned v=>exact he
           |panicked c=>obtain⟨he,_⟩:=he;cases he
           |outgrown=>obtain⟨a,w,he,_⟩:=he;cases he
          |_=>exact h3.elim
         |halt hl w'=>
          cases hl with
          |panic v=>obtain⟨he,_⟩:=h3;cases he
          |_=>exact h3.elim
       · rename_i hw;rw [if_neg hw];exact⟨hop.1,goOn _ _ hop.2⟩
     · --j itself:all ahead of it are listed
       obtain rfl:i=j:=by omega
       have hl:=hall listed hsz hdown g3
       have hnil:Region.ready .any (ops.extract 0 i) ls= []:=List.eq_nil_iff_forall_not_mem.2 fun k hk=>by
        obtain⟨k1,k2,_⟩:=(a4i (by omega)).1 hk
        rw [←hsame k (by omega),hl k (by omega)]at k2;cases k2
       obtain⟨_,hk⟩:=h0 hnil
       have h:=hK a w hk
       have hd:ops.toList.drop i=ops[i]::ops.toList.drop (i+1):=by
        rw [List.drop_eq_getElem_cons (by simpa using hjs)];simp
       rw [hd]at h
       simp only [wpListIn]at h
       unfold wpOpIn
       rw [Array.getElem?_eq_getElem hjs]
       simp only
       have goOn:∀a w,wpListIn Fence.wide n P ops Q (ops.toList.drop (i+1)) a w→wpAnyIn Fence.wide n P .any ops Q fuel2 (listed.setIfInBounds i true) a w:=by
        intro a w h
        refine b3D hb hpost (ops.size-(i+1)) (i+1) fuel2 _ a w (by omega) (by omega) (by simpa using hsz) (fun k hk=> ?_) (fun k hk hk2=> ?_) (by omega) h
        · by_cases e:i=k
          · subst e;simp [Array.getElem?_setIfInBounds_self,hsz,hjs]
          · rw [Array.getElem?_setIfInBounds_ne e];exact hl k (by omega)
        · rw [Array.getElem?_setIfInBounds_ne (by omega)];exact hfalse k (by omega) hk2
       split at h
       · rename_i hw;rw [if_pos hw];exact Oper.wpIn_mono goOn h
       · rename_i hw;rw [if_neg hw];exact⟨h.1,goOn _ _ h.2⟩
end
end Go.Sx
namespace Go.Sx
open Go Go.RowKit
def b4g:List (Nat×D)→List (Nat×D)
 | []=> []
 |(d,x)::T=>(d,match a0F x,Nat.blt d 1000000 with|true,true=>x|_,_=> .bad)::b4g T
def b8w:List (Nat×D)→List (Nat×D)
 | []=> []
 |(d,x)::T=>(d,match x,Nat.blt d 1000000 with| .v y,true=> .v y|_,_=> .bad)::b8w T
def a6L (st:Sy) (o:Oper):Option (List Operand):=match o.op with
 | .call c=>match c.callee with
  | .value f=>match evY st f with
   |some (.v (.func (.yield _) _ _))=>some c.args.toList
   |_=>none
  |_=>none
 |_=>none
def b2p (st:Sy) (o:Oper):Option D:=match o.op with
 | .call c=>match c.callee with
  | .value f=>evY st f
  |_=>none
 |_=>none
abbrev Pre:=Option (List (List D))
structure a9u (X:Cy) (l:Nat) (xs:List (List D)) (st:Sy) (o:Oper) (args:List Operand) (p:Pre) (K:Sy→Pre→Prop):Prop where
 ex:∃pre x x',b2p st o=some (.v (.func (.yield l) #[] #[]))∧p=some pre∧a8T st args=some x∧a2n st (.tup x) (fun y=>y= .tup x')∧pre++ [x']<+:xs∧
  W6 X ⟨b4g st.T, [],st.nk⟩ o.dst (.v (.bool true)) (fun st=>K st (some (pre++ [x'])))∧W6 X ⟨b8w st.T, [],st.nk⟩ o.dst (.v (.bool false)) fun st=>K st none
structure a1o (X:Cy) (l:Nat) (xs:List (List D)) (st:Sy) (o:Oper) (args:List Operand) (p:Pre) (K:Sy→Pre→Prop):Prop where
 ex:∃ks st0,a5X ks st []=some (st0, [])∧a9u X l xs st0 o args p K
def c4Z (X:Cy) (ops:List Oper) (o:Oper) (st:Sy) (K:Sy→Prop):Prop:=
 a3b ops o.guard st (fun st=>y1 X st o.op (a7n X true st o.dst K)) (fun st=>W6 X st o.dst .und K)
theorem c3T (X:Cy) (ops:List Oper) (o:Oper) (st:Sy) (K:Sy→Prop):c4Z X ops o st K=b6F X ops [o] st K:=rfl
def b7k (X:Cy) (l:Nat) (xs:List (List D)) (ops:List Oper):List Oper→Sy→Pre→(Sy→Pre→Prop)→Prop
 | [],st,p,K=>K st p
 |o::rest,st,p,K=>match a6L st o with
  |some args=>a3b ops o.guard st (fun st=>a1o X l xs st o args p fun st p=>b7k X l xs ops rest st p K) (fun st=>W6 X st o.dst .und fun st=>b7k X l xs ops rest st p K)
  |none=>c4Z X ops o st fun st=>b7k X l xs ops rest st p K
def c3W:List (Nat×Nat)→Nat→Option Nat
 | [],_=>none
 |(i,j)::l,k=>match Nat.beq i k with|true=>some j|false=>c3W l k
structure a8B (body:Sy→Pre→(Exit→Sy→Pre→Prop)→Prop) (st:Sy) (p:Pre) (K:Exit→Sy→Pre→Prop):Prop where
 ex:∃(α:Type) (f:α→Sy) (pf:α→List (List D)) (inv:α→Prop) (μ:α→Nat),(∃x0,Q0 st (f x0)∧p=some (pf x0)∧inv x0)∧∀x,inv x→body (f x) (some (pf x)) fun e st2 p2=>match e with
  | .normal=>∃y,Q0 st2 (f y)∧p2=some (pf y)∧inv y∧μ y<μ x
  |e=>K e st2 p2
def a5W (X:Cy) (l:Nat) (xs:List (List D)) (yl:List (Nat×Nat)):Code→Sy→Pre→(Exit→Sy→Pre→Prop)→Prop
 | .skip,st,p,K=>K .normal st p
 | .region id ops draw,st,p,K=>match draw with
  |false=>b7k X l xs ops.toList ops.toList st p (K .normal)
  |true=>match b6N X.pl id with
   |some pl=>match c3W yl id with
    |some j=>a8e ops j=true∧a6r X.tt X.nt (ops.toList.take j).toArray pl=true∧(match st with|⟨T,H,nk⟩=>a6X X (ops.toList.take j) pl ⟨a7f (ops.toList.take j) T,H,nk⟩ [] fun st=>b7k X l xs ops.toList (ops.toList.drop j) st p (K .normal))
    |none=>S1 X (.region id ops true) st fun e st=>K e st p
   |none=>False
 | .seq a b,st,p,K=>a5W X l xs yl a st p fun e st' p'=>match e with
  | .normal=>a5W X l xs yl b st' p' K
  |e=>K e st' p'
 | .cond c t e,st,p,K=>match evY st c with
  |some (.v (.bool b))=>VIf b (a5W X l xs yl t st p K) (a5W X l xs yl e st p K)
  |_=>False
 | .block id c,st,p,K=>a5W X l xs yl c st p fun e st' p'=>match e with
  | .exit j=>match Nat.beq j id with
   |true=>K .normal st' p'
   |false=>K (.exit j) st' p'
  |e=>K e st' p'
 | .loop c,st,p,K=>a8B (a5W X l xs yl c) st p K
 | .exit id,st,p,K=>K (.exit id) st p
 | .ret,st,p,K=>K .ret st p
 | .scope c,st,p,K=>a5W X l xs yl c st p K
 | .label _,st,p,K=>K .normal st p
 |_,_,_,_=>False
theorem b4s {d:Nat} {x:D}:∀ {T:List (Nat×D)},s7 (b4g T) d=some x→x= .bad∨(s7 T d=some x∧a0F x=true∧d<N8)
 | [],h=>by cases h
 |(e,y)::T,h=>by
  simp only [b4g,s7]at h⊢
  split at h
  · rename_i hb
    simp only [Option.some.injEq]at h
    cases hc:a0F y with
    |true=>
     cases hd:Nat.blt e 1000000 with
     |true=>rw [hc,hd]at h;subst h;exact .inr ⟨rfl,hc,by rw [←w4 hb];simpa [Nat.blt_eq]using hd⟩
     |false=>rw [hc,hd]at h;exact .inl h.symm
    |false=>rw [hc]at h;exact .inl h.symm
  · rename_i hb
    exact b4s h
theorem b4O {d:Nat} {x:D}:∀ {T:List (Nat×D)},s7 (b8w T) d=some x→x= .bad∨(s7 (b4g T) d=some x∧∃y,x= .v y)
 | [],h=>by cases h
 |(e,y)::T,h=>by
  simp only [b8w,b4g,s7]at h⊢
  split at h
  · rename_i hb
    simp only [Option.some.injEq]at h
    split at h
    · rename_i v hd
      subst h
      exact .inr ⟨by simp [a0F,hd],_,rfl⟩
    · exact .inl h.symm
  · exact b4O h
def b6j (t:Array Value) (d:Nat):SV:=match t[d]? with|some y=> .v y|none=> .bad
def b6a (t:Array Value):List (Nat×D)→List (Nat×SV)
 | []=> []
 |(d,_)::T=>(d,b6j t d)::b6a t T
theorem b4F {t:Array Value} {d:Nat} {s:SV}:∀ {T:List (Nat×D)},y0 (b6a t T) d=some s→s=b6j t d
 | [],h=>by cases h
 |(e,y)::T,h=>by
  simp only [b6a,y0]at h
  split at h
  · rename_i hb;obtain rfl:=w4 hb;exact(Option.some.inj h).symm
  · exact b4F h
theorem c0o {t:Array Value} {d:Nat} {x:D}:∀ {T:List (Nat×D)},s7 T d=some x→y0 (b6a t T) d=some (b6j t d)
 | [],h=>by cases h
 |(e,y)::T,h=>by
  simp only [s7]at h
  simp only [b6a,y0]
  split at h
  · rename_i hb;obtain rfl:=w4 hb;simp
  · rename_i hb;rw [hb];exact c0o h
section
variable {X : Cy} {xs : List (List D)} {ok0 : Nat → Prop} {W0 : World} {l n : Nat} {J : List (List D) → (Nat → Prop) → World → Prop} {Jx : List (List D) → World → Prop}
def c7U (xs:List (List D)) (W0:World) (J:List (List D)→(Nat→Prop)→World→Prop) (Jx:List (List D)→World→Prop) (ok:Nat→Prop) (w0:World):Pre→Prop
 |some pre=>W0.heap.size≤w0.heap.size∧∃O:Nat→Prop,(∀b,O b→b<w0.heap.size∧¬ok b)∧J pre O w0
 |none=>∃pre,pre<+:xs∧Jx pre w0
def Seg (X:Cy) (xs:List (List D)) (ok0:Nat→Prop) (W0:World) (J:List (List D)→(Nat→Prop)→World→Prop) (Jx:List (List D)→World→Prop) (p:Pre) (sy:Sy) (a:Act) (w:World):Prop:=
 ∃(ok:Nat→Prop) (w0:World) (st:St),(∀b,ok b→b<w0.heap.size∧(ok0 b∨W0.heap.size≤b))∧Sim (fun b=>w0.heap.size≤b∨ok b) st sy∧Rel (cx X w0 []) st a w∧c7U xs W0 J Jx ok w0 p
theorem b5c {ok:Nat→Prop} {w0:World}:∀b,(w0.heap.size≤b∨b∈([]:List Nat))→(fun b=>w0.heap.size≤b∨ok b) b:=fun b h=>by
 rcases h with h|h
 · exact .inl h
 · cases h
theorem c2f (hP:POK X.P X.tt) {c:Code} {sy:Sy} {p:Pre} {a:Act} {w:World} {K:Exit→Sy→Prop} {Q:Exit→Act→World→Prop} (h:S1 X c sy K) (hs:Seg X xs ok0 W0 J Jx p sy a w)
 (hQ:∀e sy' a' w',plain e→K e sy'→Seg X xs ok0 W0 J Jx p sy' a' w'→Q e a' w'):c.wp X.P Q a w:=by
 obtain⟨ok,w0,st,h1,h3,h4,h5⟩:=hs
 exact a3M b5c hP c st sy a w K Q h h3 h4 fun e st' sy' a' w' hp hk hs' hl=>hQ e sy' a' w' hp hk ⟨ok,w0,st',h1,hs',hl.rel,h5⟩
theorem c0k {P:Program} {o:Oper} {a:Act} {w:World} {K:Act→World→Prop} {Q Q':Exit→Act→World→Prop} (h:o.wp P a w K Q') (hno:¬LetsOut Q') (hpn:∀c a w,¬Q' (.panic c) a w):o.wpIn Fence.wide n P a w K Q:=by
 unfold Oper.wp at h
 unfold Oper.wpIn
 refine⟨fun _ _=>trivial, ?_⟩
 rw [Fence.wide_round,Oper.semAt_none]
 generalize (execOp a.eval o).run P w=r at*
 cases r with
 |ok x w'=>
  cases x with
  |value v=>exact h
  |skip=>exact h
  |defer d=>exact h
  |enter f args=>
   refine⟨fun h=>by simp [Fence.wide]at h,(callsIn_wide.2 h).mono fun e w'' he=> ?_⟩
   cases e with
   |returned v=>exact he
   |panicked c=>exact absurd he (hpn _ _ _)
   |outgrown=>exact absurd he hno
  |row row args=>
   refine⟨fun h=>by simp [Fence.wide]at h,fun c cs _=> ?_⟩
   obtain⟨v,w',r,s⟩:=h c cs
   exact⟨v,w',r,stepsIn_wide.2 s⟩
  |_=>exact h.elim
 |halt hl w'=>
  cases hl with
  |panic v=>exact absurd h (hpn _ _ _)
  |_=>exact h.elim
theorem a9N {P:Program} {md:Region.Mode} {ops:Array Oper} {K:Act→World→Prop}:∀(fuel:Nat) (listed:Array Bool) (a:Act) (w:World),wpAny P md ops (fun e a w=>e=Exit.normal∧K a w) fuel listed a w→wpAnyIn Fence.wide n P md ops (fun e a w=>e=Exit.normal∧K a w) fuel listed a w
 |0,listed,a,w,h=>h
 |fuel+1,listed,a,w,h=>by
  refine⟨h.1,fun i hi=> ?_⟩
  have h2:=h.2 i hi
  unfold wpOp at h2
  unfold wpOpIn
  cases ho:ops[i]? with
  |none=>rw [ho]at h2;exact a9N fuel _ a w h2
  |some o=>
   rw [ho]at h2
   simp only at h2⊢
   have hno:¬LetsOut (fun e a w=>e=Exit.normal∧K a w):=by rintro⟨a,w,h,_⟩;cases h
   split at h2
   · rename_i hw
     rw [if_pos hw]
     rcases h2 with h2|⟨_,h2⟩
     · exact c0k (Oper.wp_mono (fun a w h=>a9N fuel _ a w h) h2) hno (by rintro c a w ⟨h,_⟩;cases h)
     · exact absurd h2 hno
   · rename_i hw
     rw [if_neg hw]
     exact⟨fun _ _=>trivial,a9N fuel _ _ _ h2⟩
theorem b1f {w0 w:World} (h:Fx [] w0 w):w0.grownBy w none:=⟨h.os,h.tape,h.output,h.size,fun k hk _=>h.block k hk (by simp)⟩
theorem b0C {ok:Nat→Prop} {w:World} {a:Act} {T:List (Nat×D)} {nk:Nat} (hsz:a.tmps.size=X.nt∧X.nt≤N8) (hd:a.defers=X.dfs) (hok:∀b,ok b→b<w.heap.size) (hT:∀d x,s7 T d=some x→x= .bad∨∃y,a.tmps[d]?=some y∧Rep ok w x y):
 Sim (fun b=>w.heap.size≤b∨ok b) ⟨b6a a.tmps T, [],nk,w,w.heap.size, []⟩ ⟨T, [],nk⟩∧Rel (cx X w []) ⟨b6a a.tmps T, [],nk,w,w.heap.size, []⟩ a w:=by
 constructor
 · refine⟨fun d x hx=> ?_,fun k e he=>by simp [j3]at he,rfl,fun j _=> ?_,fun _ _=>rfl⟩
   · rcases hT d x hx with h|⟨y,h1,h2⟩
     · exact .inl h
     · right
       refine⟨_,c0o hx, ?_⟩
       have:b6j a.tmps d= .v y:=by simp [b6j,h1]
       rw [this]
       exact Rep.rel _ _ (Rep.mono (fun b hb=>⟨⟨⟨.inl (hok b hb), .inr hb⟩,hok b hb,fun c hc=>by simp [bs]at hc⟩,rfl⟩) _ _ h2)
   · have:∀T:List (Nat×D),u4 j (b6a a.tmps T)=true:=by
      intro T
      induction T with
      |nil=>rfl
      |cons p T ih=>
       obtain⟨e,y⟩:=p
       simp only [b6a,u4]
       have:ment j (b6j a.tmps e)=false:=by unfold b6j;cases a.tmps[e]?<;>rfl
       rw [this];exact ih
     exact this T
 · refine⟨hsz,fun d s hs=> ?_,hd,Cls.nil (cx X w []) nk,Nat.le_refl _,by simp⟩
   have:=b4F hs
   subst this
   cases h:a.tmps[d]? with
   |none=>left;simp [b6j,h]
   |some y=>
    have hlt:=(Array.getElem?_eq_some_iff.1 h).1
    right;rw [P7,if_pos (Nat.lt_of_lt_of_le hlt (hsz.1▸hsz.2))];simp [b6j,h,den]
def b2l (X:Cy) (xs:List (List D)) (ok0:Nat→Prop) (W0:World) (l n:Nat) (J:List (List D)→(Nat→Prop)→World→Prop) (Jx:List (List D)→World→Prop):Prop:=
 ∀pre x vals O W1,J pre O W1→(∀b,O b→b<W1.heap.size)→pre++ [x]<+:xs→d6 (fun b=>(ok0 b∨W0.heap.size≤b)∧b<W1.heap.size∧¬O b) W1 x vals→
  YieldAt Fence.wide n X.P l vals.toArray W1 fun e W'=>
   (e= .returned (.bool true)∧∃O',J (pre++ [x]) O' W'∧W1.heap.size≤W'.heap.size∧(∀b,O' b→b<W'.heap.size∧(O b∨W1.heap.size≤b))∧∀b,b<W1.heap.size→¬O b→W'.heap[b]?=W1.heap[b]?)∨
   (e= .returned (.bool false)∧Jx (pre++ [x]) W')
theorem a8X {st:Sy} {o:Oper} {args:List Operand} (h:a6L st o=some args):∃c f,o.op= .call c∧c.callee= .value f∧c.args.toList=args:=by
 unfold a6L at h
 split at h
 · rename_i c hc
   split at h
   · rename_i f hf
     split at h
     · exact⟨c,f,hc,hf,Option.some.inj h⟩
     · cases h
   · cases h
 · cases h
theorem c0v (hP:POK X.P X.tt) (hJ:∀pre O A B,J pre O A→A.grownBy B none→J pre O B) (hY:b2l X xs ok0 W0 l n J Jx) {o:Oper} {args:List Operand} {sy:Sy} {p:Pre} {a:Act} {w:World} {K:Sy→Pre→Prop} {K':Act→World→Prop} {Q:Exit→Act→World→Prop}
 (hop:a6L sy o=some args∨∃c f,o.op= .call c∧c.callee= .value f∧c.args.toList=args) (h:a9u X l xs sy o args p K) (hs:Seg X xs ok0 W0 J Jx p sy a w) (hK:∀sy' p' a' w',K sy' p'→Seg X xs ok0 W0 J Jx p' sy' a' w'→K' a' w'):o.wpIn Fence.wide (n+1) X.P a w K' Q:=by
 obtain⟨pre,x,x',hcal,rfl,hx,hret,hpre,ht,hf⟩:=h.ex
 obtain⟨ok,w0,st,hok,hsim,hrel,hsz,O,hO,hJ0⟩:=hs
 obtain⟨c,f,hopc,hcf,hca⟩:∃c f,o.op= .call c∧c.callee= .value f∧c.args.toList=args:=by
  rcases hop with h|h
  · exact a8X h
  · exact h
 simp only [b2p,hopc,hcf]at hcal
 obtain⟨sf,e1,e2,_⟩:=j5 hsim hcal
 have hfv:a.eval f= .func (.yield l) #[] #[]:=by
  have:=e2.sc;subst this
  simpa [den]using (hrel.ev f _ e1).2
 obtain⟨sx,e3,e4⟩:=Y7 hsim hx
 have hargs:=(a5N hrel.ev e3).1
 have hfx0:=hrel.cls.fx0
 have hg:=b1f (show Fx [] w0 w from hfx0)
 have hJ1:=hJ pre O w0 w hJ0 hg
 --what is handed on
 obtain⟨r',hr',hrep⟩:=b0g (b5c (ok:=ok) (w0:=w0)) hret hsim hrel (show c6 (okS _ st) st.w (B1 st) (.tup x) (.tup sx) from by simp only [c6];exact .inl ⟨sx,rfl,e4⟩)
 subst hr'
 simp only [Rep]at hrep
 obtain⟨av,hav,hrepl⟩:=hrep
 have hval:av=(i0 st.H sx).toArray:=by simpa [den]using hav.symm
 have hO1:∀b,O b→b<w.heap.size:=fun b hb=>Nat.lt_of_lt_of_le (hO b hb).1 hfx0.size
 have hnO:∀b,(w0.heap.size≤b∨ok b)→¬O b:=fun b hb hOb=>by
  rcases hb with h|h
  · have:=(hO b hOb).1;omega
  · exact(hO b hOb).2 h
 obtain⟨fn,tm,asn,body,hrun,hround⟩:=hY pre x' av.toList O w hJ1 hO1 hpre (d6.mono (fun b hb=>⟨⟨by
  rcases hb.1 with h|h
  · exact .inr (Nat.le_trans hsz h)
  · exact(hok b h).2,hb.2,hnO b hb.1⟩,rfl⟩) _ _ hrepl)
 unfold Oper.wpIn
 refine⟨fun _ _=>trivial, ?_⟩
 rw [Fence.wide_round,Oper.semAt_none]
 have harr:c.args.map a.eval=av:=by
  rw [hval];apply Array.ext';rw [←hargs,←hca];simp
 have hexec:(execOp a.eval o).run X.P w= .ok (.round l fn tm asn body) w:=by
  simp only [execOp,hopc,resolve,hcf,Sem.run_bind,hfv,Deferred.ofValue,Sem.run_pure,Result.andThen_ok,invoke,harr]
  simpa using hrun
 rw [hexec]
 refine⟨fun h=>by simp [Fence.wide]at h,hround.mono fun e w' he=> ?_⟩
 --the state behind the round
 have hkeep:∀d y,s7 (b4g sy.T) d=some y→y= .bad∨∃v,a.tmps[d]?=some v∧Rep (fun b=>(w0.heap.size≤b∨ok b)∧b<w.heap.size) w y v:=by
  intro d y hd
  rcases b4s hd with h|⟨h,hc,hlt⟩
  · exact .inl h
  · rcases hsim.T d y h with h|⟨s,g1,g2⟩
    · exact .inl h
    · rcases hrel.T d s g1 with g|g
      · subst g
        left
        cases y<;>simp_all [c6,a0F,a5d]
      · right
        rw [P7,if_pos hlt]at g
        refine⟨_,g, ?_⟩
        have:=a4s (H:=st.H) _ _ g2 hc
        exact Rep.mono (fun b hb=>⟨⟨hb.1.2,Nat.lt_of_lt_of_le hb.2.1 hrel.cls.fx.size⟩,hrel.cls.fx.block b hb.2.1 hb.2.2⟩) _ _ this
 have hnk:sy.nk=st.nk:=hsim.nk
 rcases he with⟨rfl,O',hJ',hle,hO',hblk⟩|⟨rfl,hJ'⟩
 · obtain⟨g1,g2⟩:=b0C (X:=X) (ok:=fun b=>(w0.heap.size≤b∨ok b)∧b<w.heap.size) (w:=w') (a:=a) (T:=b4g sy.T) (nk:=sy.nk) hrel.size hrel.dfs (fun b hb=>Nat.lt_of_lt_of_le hb.2 hle) fun d y hd=>by
    rcases hkeep d y hd with h|⟨v,h1,h2⟩
    · exact .inl h
    · exact .inr ⟨v,h1,Rep.mono (fun b hb=>⟨hb,hblk b hb.2 (hnO b hb.1)⟩) _ _ h2⟩
   have hput:=I7 (w0:=w') (bor:= []) (s:= .v (.bool true)) ht g1 (by simp only [c6];exact⟨trivial,rfl⟩)
   obtain⟨st1,⟨sy1,k1,k2⟩,k3,_⟩:=a2F g2 hput (v:= .bool true) (.inr (by simp [den]))
   refine hK sy1 _ _ _ k1 ⟨_,w',st1,fun b hb=>⟨Nat.lt_of_lt_of_le hb.2 hle, ?_⟩,k2,k3,Nat.le_trans hsz (Nat.le_trans hfx0.size hle),O',fun b hb=>⟨(hO' b hb).1,fun hx=> ?_⟩,hJ'⟩
   · rcases hb.1 with h|h
     · exact .inr (Nat.le_trans hsz h)
     · exact(hok b h).2
   · rcases(hO' b hb).2 with h|h
     · exact hnO b hx.1 h
     · have:=hx.2;omega
 · obtain⟨g1,g2⟩:=b0C (X:=X) (ok:=fun _=>False) (w:=w') (a:=a) (T:=b8w sy.T) (nk:=sy.nk) hrel.size hrel.dfs (fun b hb=>hb.elim) fun d y hd=>by
    rcases b4O hd with h|⟨h,x,rfl⟩
    · exact .inl h
    · rcases hkeep d _ h with h|⟨v,h1,h2⟩
      · exact .inl h
      · exact .inr ⟨v,h1,by simp only [Rep]at h2⊢;exact h2⟩
   have hput:=I7 (w0:=w') (bor:= []) (s:= .v (.bool false)) hf g1 (by simp only [c6];exact⟨trivial,rfl⟩)
   obtain⟨st1,⟨sy1,k1,k2⟩,k3,_⟩:=a2F g2 hput (v:= .bool false) (.inr (by simp [den]))
   exact hK sy1 _ _ _ k1 ⟨_,w',st1,fun b hb=>hb.elim,k2,k3,_,hpre,hJ'⟩
theorem c2M (hP:POK X.P X.tt) (hJ:∀pre O A B,J pre O A→A.grownBy B none→J pre O B) (hY:b2l X xs ok0 W0 l n J Jx) {o:Oper} {args:List Operand} {sy:Sy} {p:Pre} {a:Act} {w:World} {K:Sy→Pre→Prop} {K':Act→World→Prop} {Q:Exit→Act→World→Prop}
 (hop:a6L sy o=some args∨∃c f,o.op= .call c∧c.callee= .value f∧c.args.toList=args) (h:a1o X l xs sy o args p K) (hs:Seg X xs ok0 W0 J Jx p sy a w) (hK:∀sy' p' a' w',K sy' p'→Seg X xs ok0 W0 J Jx p' sy' a' w'→K' a' w'):o.wpIn Fence.wide (n+1) X.P a w K' Q:=by
 obtain⟨ks,sy0,hfz,hz⟩:=h.ex
 obtain⟨ok,w0,st,hok,hsim,hrel,hJ0⟩:=hs
 obtain⟨st,hsim,hrel,_⟩:=b9X (b5c (ok:=ok) (w0:=w0)) hfz hsim hrel
 refine c0v hP hJ hY (sy:=sy0) (.inr ?_) hz ⟨ok,w0,st,hok,hsim,hrel,hJ0⟩ hK
 rcases hop with h|h
 · exact a8X h
 · exact h
end
end Go.Sx
namespace Go.Sx
open Go Go.RowKit
section
variable {X : Cy} {xs : List (List D)} {ok0 : Nat → Prop} {W0 : World} {l n : Nat} {J : List (List D) → (Nat → Prop) → World → Prop} {Jx : List (List D) → World → Prop}
theorem c1K {ops:List Oper} {o:Oper} {opsA:Array Oper} (hops:opsA.toList=ops) {sy:Sy} {p:Pre} {a:Act} {w:World} {yes no:Sy→Prop} (h:a3b ops o.guard sy yes no) (hs:Seg X xs ok0 W0 J Jx p sy a w):
 ∃sy',Seg X xs ok0 W0 J Jx p sy' a w∧((Region.wanted o (yielded opsA a.tmps)=true∧yes sy')∨(Region.wanted o (yielded opsA a.tmps)=false∧no sy')):=by
 obtain⟨ok,w0,st,h1,h3,h4,h5⟩:=hs
 subst hops
 have hg:=b0T (yes:=fun st'=>∃sy',Sim (fun b=>w0.heap.size≤b∨ok b) st' sy'∧yes sy') (no:=fun st'=>∃sy',Sim (fun b=>w0.heap.size≤b∨ok b) st' sy'∧no sy') h h3 (fun st' sy' h1 h2=>⟨sy',h1,h2⟩) (fun st' sy' h1 h2=>⟨sy',h1,h2⟩)
 obtain⟨st1,hsm,_,hr1,hg⟩:=b3I (X:=cx X w0 []) hg h4
 rcases hg with⟨hw,sy1,hs1,hy⟩|⟨hw,sy1,hs1,hn⟩
 · exact⟨sy1,⟨ok,w0,st1,h1,hs1,hr1,h5⟩, .inl ⟨hw,hy⟩⟩
 · exact⟨sy1,⟨ok,w0,st1,h1,hs1,hr1,h5⟩, .inr ⟨hw,hn⟩⟩
theorem c4V {sy:Sy} {p:Pre} {a:Act} {w:World} {dst:Option Nat} {K:Sy→Prop} (h:W6 X sy dst .und K) (hs:Seg X xs ok0 W0 J Jx p sy a w):∃sy',K sy'∧Seg X xs ok0 W0 J Jx p sy' (a.put dst undef) w:=by
 obtain⟨ok,w0,st,h1,h3,h4,h5⟩:=hs
 obtain⟨st2,⟨sy2,hK2,hs2⟩,hr2,hH2⟩:=a2F h4 (I7 (w0:=w0) (bor:= []) (s:= .v undef) h h3 (by simp only [c6])) (v:=undef) (.inr rfl)
 exact⟨sy2,hK2,ok,w0,st2,h1,hs2,hr2,h5⟩
theorem a9C (hP:POK X.P X.tt) (hJ:∀pre O A B,J pre O A→A.grownBy B none→J pre O B) (hY:b2l X xs ok0 W0 l n J Jx) {ops:Array Oper} {Q:Exit→Act→World→Prop}:∀(rest:List Oper) (sy:Sy) (p:Pre) (a:Act) (w:World) (K:Sy→Pre→Prop),
 b7k X l xs ops.toList rest sy p K→Seg X xs ok0 W0 J Jx p sy a w→(∀sy' p' a' w',K sy' p'→Seg X xs ok0 W0 J Jx p' sy' a' w'→Q .normal a' w')→wpListIn Fence.wide (n+1) X.P ops Q rest a w
 | [],sy,p,a,w,K,h,hs,hQ=>hQ sy p a w h hs
 |o::rest,sy,p,a,w,K,h,hs,hQ=>by
  simp only [b7k]at h
  split at h
  · rename_i args hy
    obtain⟨c,f,hopc,hcf,hca⟩:=a8X hy
    obtain⟨sy1,hs1,hg⟩:=c1K (opsA:=ops) rfl h hs
    rcases hg with⟨hw,hyes⟩|⟨hw,hno⟩
    · simp only [wpListIn,hw,if_true]
      exact c2M hP hJ hY (.inr ⟨c,f,hopc,hcf,hca⟩) hyes hs1 fun sy' p' a' w' hk hs'=>a9C hP hJ hY rest sy' p' a' w' K hk hs' hQ
    · simp only [wpListIn,hw]
      obtain⟨sy2,hk,hs2⟩:=c4V hno hs1
      exact⟨fun _ _=>trivial,a9C hP hJ hY rest sy2 p _ w K hk hs2 hQ⟩
  · rw [c3T]at h
    obtain⟨ok,w0,st,h1,h3,h4,h5⟩:=hs
    have hno:¬LetsOut fun e a w=>e=Exit.normal∧wpListIn Fence.wide (n+1) X.P ops Q rest a w:=by
     rintro⟨a,w,h,_⟩;cases h
    have h:=b0u (ops:=ops) (Q:=fun e a w=>e=Exit.normal∧wpListIn Fence.wide (n+1) X.P ops Q rest a w) b5c hP [o] st sy a w _ h h3 h4 fun st' sy' a' w' hk hs' hl=>
     ⟨rfl,a9C hP hJ hY rest sy' p a' w' K hk ⟨ok,w0,st',h1,hs',hl.rel,h5⟩ hQ⟩
    simp only [wpList]at h
    simp only [wpListIn]
    split at h
    · rename_i hw
      rw [if_pos hw]
      rcases h with h|⟨_,h⟩
      · exact c0k (Oper.wp_mono (fun _ _ h=>h.2) h) hno (by rintro c a w ⟨h,_⟩;cases h)
      · exact absurd h hno
    · rename_i hw
      rw [if_neg hw]
      exact⟨fun _ _=>trivial,h.2⟩
theorem c2e (hP:POK X.P X.tt) (hJ:∀pre O A B,J pre O A→A.grownBy B none→J pre O B) (hY:b2l X xs ok0 W0 l n J Jx) {yl:List (Nat×Nat)} (c:Code):∀(sy:Sy) (p:Pre) (a:Act) (w:World) (K:Exit→Sy→Pre→Prop) (Q:Exit→Act→World→Prop),
 a5W X l xs yl c sy p K→Seg X xs ok0 W0 J Jx p sy a w→(∀e sy' p' a' w',plain e→K e sy' p'→Seg X xs ok0 W0 J Jx p' sy' a' w'→Q e a' w')→c.wp X.P Q a w:=by
 induction c with
 |skip=>exact fun sy p a w K Q h hs hQ=>wp_skip (hQ .normal sy p a w trivial h hs)
 |label l=>exact fun sy p a w K Q h hs hQ=>wp_label (hQ .normal sy p a w trivial h hs)
 |exit id=>exact fun sy p a w K Q h hs hQ=>wp_exit (hQ (.exit id) sy p a w trivial h hs)
 |ret=>exact fun sy p a w K Q h hs hQ=>wp_ret (hQ .ret sy p a w trivial h hs)
 |region id ops draw=>
  intro sy p a w K Q h hs hQ
  cases draw with
  |false=>exact(wpIn_wide (n:=n+1)).1 (wpIn_region_list (a9C hP hJ hY ops.toList sy p a w _ h hs fun sy' p' a' w' hk hs'=>hQ .normal sy' p' a' w' trivial hk hs'))
  |true=>
   simp only [a5W]at h
   split at h
   · split at h
     · rename_i pl _ j _
       obtain⟨hch,hpl,h⟩:=h
       obtain⟨ok,w0,st,h1,hsim,hrel,h5⟩:=hs
       obtain⟨T,H,nk⟩:=sy
       obtain⟨T',H',nk',ws,lo,iv⟩:=st
       have hex:ops.extract 0 j=(ops.toList.take j).toArray:=by apply Array.ext';simp
       have htk:(ops.extract 0 j).toList=ops.toList.take j:=by simp
       rw [←hex]at hpl
       simp only [←htk]at h
       have hx:=a2m (w0:=w0) (bor:= []) (b5c (ok:=ok) (w0:=w0)) hP _ h (b3l (ops:=(ops.extract 0 j).toList) hsim)
       have hjs:j≤ops.size:=by
        simp only [a8e,Bool.and_eq_true]at hch
        exact Nat.le_of_lt (Nat.blt_eq.mp hch.2.2.2.2)
       have hany:=a3O (X:=cx X w0 []) (Q:=fun e a w=>e=Exit.normal∧wpListIn Fence.wide (n+1) X.P ops Q (ops.toList.drop j) a w) hP hrel hpl hx fun st' a' w' ⟨sy',hk,hs'⟩ hl=>
        ⟨rfl,a9C hP hJ hY _ sy' p a' w' _ hk ⟨ok,w0,st',h1,hs',hl.rel,h5⟩ fun sy' p' a' w' hk hs'=>hQ .normal sy' p' a' w' trivial hk hs'⟩
       have hany:=a9N (n:=n+1) _ _ _ _ hany
       --the whole region at exits that are no panics
       have hcut:=c4n (n:=n+1) (Q:=Q) hch (fun a w h=>h) (ops.extract 0 j).size ops.size (Array.replicate (ops.extract 0 j).size false) (Array.replicate ops.size false) a { w with drawn:=w.drawn+1} (by simp;omega) (by simp) (fun i hi=>by
        rw [Array.getElem?_eq_getElem (by simp;omega),Array.getElem?_eq_getElem (by simp;omega)];simp) (fun i hi hi2=>by
        rw [Array.getElem?_eq_getElem (by simp;omega)];simp) (fun m i hm=>by
        by_cases h:m<ops.size
        · rw [Array.getElem?_eq_getElem (by simpa using h)]at hm;simp at hm
        · rw [Array.getElem?_eq_none (by simpa using h)]at hm;cases hm) (by simp;omega) hany
       exact(wpIn_wide (n:=n+1)).1 (wpIn_region_any hP.mix hcut)
     · exact c2f hP h hs fun e sy' a' w' hp hk hs'=>hQ e sy' p a' w' hp hk hs'
   · exact h.elim
 |seq x y ihx ihy=>
  intro sy p a w K Q h hs hQ
  refine wp_seq (ihx sy p a w _ _ h hs fun e sy1 p1 a1 w1 hp hk hs1=> ?_)
  cases e with
  |normal=>exact ihy sy1 p1 a1 w1 K Q hk hs1 hQ
  |exit id=>exact hQ _ _ _ _ _ hp hk hs1
  |ret=>exact hQ _ _ _ _ _ hp hk hs1
  |goto l=>exact hp.elim
  |panic c=>exact hp.elim
  |outgrown=>exact hp.elim
 |cond c x y ihx ihy=>
  intro sy p a w K Q h hs hQ
  simp only [a5W]at h
  split at h
  · rename_i b hcd
    obtain⟨ok,w0,st,h1,hsim,hrel,h5⟩:=hs
    obtain⟨s,g1,g2,_⟩:=j5 hsim hcd
    have:=g2.sc;subst this
    have hb:a.eval c= .bool b:=by simpa [den]using (hrel.ev c _ g1).2
    cases b with
    |true=>exact wp_cond_true hb (ihx sy p a w K Q h ⟨ok,w0,st,h1,hsim,hrel,h5⟩ hQ)
    |false=>exact wp_cond_false hb (ihy sy p a w K Q h ⟨ok,w0,st,h1,hsim,hrel,h5⟩ hQ)
  · exact h.elim
 |block id c ih=>
  intro sy p a w K Q h hs hQ
  refine wp_block (ih sy p a w _ _ h hs fun e sy1 p1 a1 w1 hp hk hs1=> ?_)
  cases e with
  |normal=>exact hQ _ _ _ _ _ hp hk hs1
  |exit j=>
   simp only [Exit.inBlock]
   simp only at hk
   split at hk
   · rename_i hb
     rw [if_pos (w4 hb)]
     exact hQ .normal _ _ _ _ trivial hk hs1
   · rename_i hb
     rw [if_neg (a2V hb)]
     exact hQ _ _ _ _ _ hp hk hs1
  |ret=>exact hQ _ _ _ _ _ hp hk hs1
  |goto l=>exact hp.elim
  |panic c=>exact hp.elim
  |outgrown=>exact hp.elim
 |scope c ih=>
  intro sy p a w K Q h hs hQ
  refine wp_scope_straight (ih sy p a w K _ h hs fun e sy1 p1 a1 w1 hp hk hs1=> ?_)
  cases e with
  |normal=>exact hQ _ _ _ _ _ hp hk hs1
  |exit j=>exact hQ _ _ _ _ _ hp hk hs1
  |ret=>exact hQ _ _ _ _ _ hp hk hs1
  |goto l=>exact hp.elim
  |panic c=>exact hp.elim
  |outgrown=>exact hp.elim
 |loop c ih=>
  intro sy p a w K Q h hs hQ
  have h:a8B (a5W X l xs yl c) sy p K:=h
  obtain⟨α,f,pf,inv,μ,⟨x0,hsub,rfl,hinv⟩,hround⟩:=h.ex
  have sub:∀ {sy sy':Sy} {p:Pre} {a:Act} {w:World},Q0 sy sy'→Seg X xs ok0 W0 J Jx p sy a w→Seg X xs ok0 W0 J Jx p sy' a w:=by
   intro sy sy' p a w hsub ⟨ok,w0,st,h1,hsim,hrel,h5⟩
   obtain⟨st0,hs0,hr0,_⟩:=hsub.rel (b5c (ok:=ok) (w0:=w0)) hsim hrel
   exact⟨ok,w0,st0,h1,hs0,hr0,h5⟩
  refine(wpIn_wide (n:=n+1)).1 (wpIn_loop_ghost (fun m a1 w1=>∃x,μ x=m∧inv x∧Seg X xs ok0 W0 J Jx (some (pf x)) (f x) a1 w1) (μ x0) ⟨x0,rfl,hinv,sub hsub hs⟩ ?_)
  rintro m a1 w1 ⟨x,rfl,hinv1,hs1⟩
  refine(wpIn_wide (n:=n+1)).2 (ih (f x) _ a1 w1 _ _ (hround x hinv1) hs1 fun e sy2 p2 a2 w2 hp hk hs2=> ?_)
  cases e with
  |normal=>
   obtain⟨y,hsb,rfl,hi,hlt⟩:=hk
   exact⟨μ y,hlt,y,rfl,hi,sub hsb hs2⟩
  |exit j=>exact hQ _ _ _ _ _ hp hk hs2
  |ret=>exact hQ _ _ _ _ _ hp hk hs2
  |goto l=>exact hp.elim
  |panic c=>exact hp.elim
  |outgrown=>exact hp.elim
 |_=>exact fun sy p a w K Q h hs hQ=>(h:False).elim
end
def c7q (xs:List (List D)) (e:Exit) (_:Sy) (p:Pre):Prop:=match e with
 | .normal=>p=none∨p=some xs
 | .ret=>p=none∨p=some xs
 |_=>False
theorem c4o {X:Cy} (hP:POK X.P X.tt) {f:FuncId} {fn:Func} {c:Code} (caps:List D) (xs:List (List D)) (yl:List (Nat×Nat)) (hf:X.P.funcs[f]?=some fn) (hb:fn.body=some c) (hn:X.nt=fn.ntmps) (hl:caps.length+1≤fn.ntmps) (hres:fn.results= #[])
 (h:∀l,a5W X l xs yl c ⟨a2z 0 (.v (.func (.yield l) #[] #[])::caps), [],0⟩ (some []) (c7q xs)) (h0:X.dfs= []:=by rfl) (hg:fn.ntmps≤N8:=by exact Nat.le_of_ble_eq_true rfl):a9e X.P f caps xs:=by
 intro ok O0 W vl n l J Jx hrep hok hO hJ hJx hY hJ0
 refine callsIn_wide.2 (calls_of_wp hf hb (c2e (ok0:=ok) (W0:=W) (l:=l) (n:=n) (J:=J) (Jx:=Jx) hP hJ hY c _ _ _ _ _ _ (h l) ?_ fun e sy' p' a' w' hp hk hs'=> ?_))
 · have hlen:=hrep.length
   obtain⟨g1,g2⟩:=b0C (X:=X) (ok:=ok) (w:=W) (a:= { tmps:=(#[.func (.yield l) #[] #[]]++vl.toArray)++Array.replicate (fn.ntmps-(#[Value.func (.yield l) #[] #[]]++vl.toArray).size) undef,defers:= []}) (T:=a2z 0 (.v (.func (.yield l) #[] #[])::caps)) (nk:=0)
    ⟨by simp [hn,←hlen];omega,hn▸hg⟩ h0.symm (fun b hb=>(hok b hb).1) (fun d x hx=>by
     right
     have hr2:d6 ok W (.v (.func (.yield l) #[] #[])::caps) (.func (.yield l) #[] #[]::vl):=by simp only [d6,Rep];exact⟨⟨trivial,rfl⟩,hrep⟩
     obtain⟨_,h2⟩:=a2q hx
     obtain⟨y,h3,h4⟩:=hr2.get h2
     refine⟨y, ?_,h4⟩
     have hlt:=(List.getElem?_eq_some_iff.1 h3).1
     rw [Array.getElem?_append_left (by simp at hlt⊢;omega)]
     have:(#[Value.func (.yield l) #[] #[]]++vl.toArray)=(Value.func (.yield l) #[] #[]::vl).toArray:=by apply Array.ext';simp
     rw [this]
     simpa using h3)
   exact⟨ok,W,_,fun b hb=>⟨(hok b hb).1, .inl hb⟩,g1,g2,Nat.le_refl _,O0,fun b hb=>⟨hO b hb,fun h=>(hok b h).2 hb⟩,hJ0⟩
 · obtain⟨ok1,w0,st,h1,hsim,hrel,h5⟩:=hs'
   have hrun:=a1U (X:=cx X w0 []) hP.tt hrel (fn:=fn) (l:= []) (by rw [hres];rfl)
   have hfx:=b1f (show Fx [] w0 w' from hrel.cls.fx0)
   have fin:(p'=none∨p'=some xs)→a'.defers= []∧∃v,(results fn a'.tmps).run X.P w'= .ok v w'∧(∃v1,Ending.returned v= .returned v1)∧((∃O,J xs O w')∨∃pre,pre<+:xs∧Jx pre w'):=by
    intro hp'
    refine⟨hrel.dfs.trans h0,_,hrun,⟨_,rfl⟩, ?_⟩
    rcases hp' with rfl|rfl
    · obtain⟨pre,h6,h7⟩:=h5
      exact .inr ⟨pre,h6,hJx _ _ _ h7 hfx⟩
    · obtain⟨_,O,_,h7⟩:=h5
      exact .inl ⟨O,hJ _ _ _ _ h7 hfx⟩
   cases e with
   |normal=>exact fin hk
   |ret=>exact fin hk
   |exit id=>exact hk.elim
   |goto l=>exact hp.elim
   |panic c=>exact hp.elim
   |outgrown=>exact hp.elim
end Go.Sx
namespace Go.Sx
open Go Go.RowKit
def a1W {S E α:Type} (m:S→α→Option (Sum S E)):List α→S→Option (Sum S E)
 | [],s=>some (.inl s)
 |x::xs,s=>match m s x with
  |none=>none
  |some (.inl s')=>a1W m xs s'
  |some (.inr e)=>some (.inr e)
def emit {α R:Type} (x:α) (m:Option (List α×R)):Option (List α×R):=match m with|none=>none|some (l,r)=>some (x::l,r)
def b4U {α E R:Type} (m:Option (List α×E)) (f:E→Option (List α×R)):Option (List α×R):=match m with
 |none=>none
 |some (l,e)=>match f e with
  |none=>none
  |some (l',r)=>some (l++l',r)
def a6m {S E α:Type} (body:S→Option (List α×Sum S E)):Nat→S→Option (List α×E)
 |0,_=>none
 |n+1,s=>match body s with
  |none=>none
  |some (l, .inl s')=>match a6m body n s' with
   |none=>none
   |some (l',e)=>some (l++l',e)
  |some (l, .inr e)=>some (l,e)
def b6h {S E α:Type} (body:S→Option (List α×Sum S E)) (s:S):Option (List α×E):=a6m body a7j s
theorem a2v {α R:Type} {x:α} {m:Option (List α×R)} {r:List α×R} (h:emit x m=some r):∃r',m=some r'∧r.1=x::r'.1∧r.2=r'.2:=by
 unfold emit at h
 split at h
 · cases h
 · cases h;exact⟨_,rfl,rfl,rfl⟩
theorem a6A {α E R:Type} {m:Option (List α×E)} {f:E→Option (List α×R)} {r:List α×R} (h:b4U m f=some r):∃e r',m=some e∧f e.2=some r'∧r.1=e.1++r'.1∧r.2=r'.2:=by
 unfold b4U at h
 split at h
 · cases h
 · split at h
   · cases h
   · rename_i l' r' hf
     cases h
     exact⟨_,_,rfl,hf,rfl,rfl⟩
theorem a6k {S E α:Type} {body:S→Option (List α×Sum S E)} {n:Nat} {s:S} {e:List α×E} (h:a6m body n s=some e):∃m b t,n=m+1∧body s=some b∧e.1=b.1++t∧(match b.2 with
 | .inl s'=>∃e',a6m body m s'=some e'∧t=e'.1∧e.2=e'.2
 | .inr x=>t= []∧e.2=x):=by
 cases n with
 |zero=>cases h
 |succ n=>
  simp only [a6m]at h
  split at h
  · cases h
  · rename_i l s' hb
    split at h
    · cases h
    · rename_i l' e' he
      cases h
      exact⟨n,_,_,rfl,hb,rfl,_,he,rfl,rfl⟩
  · rename_i l x hb
    cases h
    exact⟨n,_, [],rfl,hb,by simp,rfl,rfl⟩
structure Hp3 {α:Type} (enc:α→List D) (q:List (List D)) (l:List α) (post xs:List (List D)):Prop where
 eq:q++l.map enc++post=xs
section
variable {α : Type} {enc : α → List D} {q post xs : List (List D)} {l l' : List α} {x : α}
theorem Hp3.emit (h:Hp3 enc q l post xs) (hl:l=x::l'):Hp3 enc (q++ [enc x]) l' post xs:=⟨by rw [←h.eq,hl];simp⟩
theorem Hp3.pre (h:Hp3 enc q l post xs) (hl:l=x::l'):q++ [enc x]<+:xs:=⟨l'.map enc++post,by rw [←h.eq,hl];simp⟩
theorem Hp3.in1 {l1 l2:List α} (h:Hp3 enc q l post xs) (hl:l=l1++l2):Hp3 enc q l1 (l2.map enc++post) xs:=⟨by rw [←h.eq,hl];simp⟩
theorem Hp3.out (h:Hp3 enc q l (l'.map enc++post) xs) (hl:l= []):Hp3 enc q l' post xs:=⟨by rw [←h.eq,hl];simp⟩
theorem Hp3.done (h:Hp3 enc q l [] xs) (hl:l= []):q=xs:=by rw [←h.eq,hl];simp
end
theorem a8B.of {body:Sy→Pre→(Exit→Sy→Pre→Prop)→Prop} {st:Sy} {q:List (List D)} {K:Exit→Sy→Pre→Prop} {α:Type} (f:α→Sy) (inv:α→List (List D)→Prop) (μ:α→Nat) (x0:α) (hi:inv x0 q) (h0:Q0 st (f x0))
 (h:∀x q,inv x q→body (f x) (some q) fun e st2 p2=>match e with
  | .normal=>∃y q',Q0 st2 (f y)∧p2=some q'∧inv y q'∧μ y<μ x
  |e=>K e st2 p2):a8B body st (some q) K:=by
 refine⟨⟨α×List (List D),fun x=>f x.1,fun x=>x.2,fun x=>inv x.1 x.2,fun x=>μ x.1,⟨(x0,q),h0,rfl,hi⟩,fun x hx=> ?_⟩⟩
 have:=h x.1 x.2 hx
 have mono:(fun(e:Exit) (st2:Sy) (p2:Pre)=>match e with
  | .normal=>∃y q',Q0 st2 (f y)∧p2=some q'∧inv y q'∧μ y<μ x.1
  |e=>K e st2 p2)=fun e st2 p2=>match e with
  | .normal=>∃y:α×List (List D),Q0 st2 (f y.1)∧p2=some y.2∧inv y.1 y.2∧μ y.1<μ x.1
  |e=>K e st2 p2:=by
  funext e st2 p2
  cases e<;>simp
 exact(mono▸this:_)
theorem a9u.of {X:Cy} {l:Nat} {xs:List (List D)} {st:Sy} {o:Oper} {args:List Operand} {q:List (List D)} {K:Sy→Pre→Prop} {x x':List D} (h1:b2p st o=some (.v (.func (.yield l) #[] #[]))) (h2:a8T st args=some x) (h3:a2n st (.tup x) fun y=>y= .tup x') (h4:q++ [x']<+:xs)
 (h5:W6 X ⟨b4g st.T, [],st.nk⟩ o.dst (.v (.bool true)) fun st=>K st (some (q++ [x']))) (h6:W6 X ⟨b8w st.T, [],st.nk⟩ o.dst (.v (.bool false)) fun st=>K st none):a9u X l xs st o args (some q) K:=⟨⟨q,x,x',h1,rfl,h2,h3,h4,h5,h6⟩⟩
theorem a1o.of {X:Cy} {l:Nat} {xs:List (List D)} {st:Sy} {o:Oper} {args:List Operand} {q:List (List D)} {K:Sy→Pre→Prop} {x x':List D} (h1:b2p st o=some (.v (.func (.yield l) #[] #[]))) (h2:a8T st args=some x) (h3:a2n st (.tup x) fun y=>y= .tup x') (h4:q++ [x']<+:xs)
 (h5:W6 X ⟨b4g st.T, [],st.nk⟩ o.dst (.v (.bool true)) fun st=>K st (some (q++ [x']))) (h6:W6 X ⟨b8w st.T, [],st.nk⟩ o.dst (.v (.bool false)) fun st=>K st none):a1o X l xs st o args (some q) K:=⟨[],st,rfl,a9u.of h1 h2 h3 h4 h5 h6⟩
theorem a1o.fz {X:Cy} {l:Nat} {xs:List (List D)} {st st0:Sy} {o:Oper} {args:List Operand} {p:Pre} {K:Sy→Pre→Prop} (ks:List Nat) (h:a5X ks st []=some (st0, [])) (hz:a9u X l xs st0 o args p K):a1o X l xs st o args p K:=⟨ks,st0,h,hz⟩
theorem c3F {P:Program} {tt:List (Nat×TI)} (hP:POK P tt) {g:Nat} {fn:Func} {c:Code} (hfn:P.funcs[g]?=some fn) (hb:fn.body=some c):∀args w,(callFunc g args).run P w= .ok (.enter g args) w:=by
 intro args w
 have hng:=hP.ng g fn hfn
 simp only [callFunc,Sem.run_bind,run_program,hfn,Result.andThen_ok]
 simp [hng,hb]
def b9w (fz:List Nat):List (Nat×D)→Bool
 | []=>true
 |(d,_)::T=>match P8 d fz with|true=>b9w fz T|false=>false
theorem b0h {fz:List Nat} {d:Nat} {x:D}:∀ {T:List (Nat×D)},b9w fz T=true→s7 T d=some x→d∈fz
 | [],_,h=>by cases h
 |(e,y)::T,h,hx=>by
  simp only [b9w]at h
  simp only [s7]at hx
  split at h
  · rename_i hm
    split at hx
    · rename_i hb;obtain rfl:=w4 hb;exact K2.1 hm
    · exact b0h h hx
  · cases h
theorem b7c {S E α:Type} {m:S→α→Option (Sum S E)}:∀(l:List α) (x:α) (r:List α) (s:S) {s1:S} {ev:Sum S E},a1W m l s=some (.inl s1)→a1W m (l++x::r) s=some ev→∃b,m s1 x=some b∧a1W m (l++ [x]) s=some b:=by
 intro l x r s s1 ev h1 h2
 induction l generalizing s with
 |nil=>
  simp only [a1W]at h1
  cases h1
  simp only [List.nil_append,a1W]at h2⊢
  cases hm:m s1 x with
  |none=>rw [hm]at h2;cases h2
  |some b=>refine⟨b,rfl, ?_⟩;cases b<;>rfl
 |cons y l ih=>
  simp only [a1W,List.cons_append]at h1 h2⊢
  cases hm:m s y with
  |none=>rw [hm]at h1;cases h1
  |some b=>
   rw [hm]at h1 h2
   cases b with
   |inl s'=>exact ih s' h1 h2
   |inr e=>cases h1
theorem a6B.of {X:Cy} {g:Operand} {ps:Array Tmp} {assign body:Code} {st:Sy} {K:Exit→Sy→Prop} {α S E:Type} {gf:FuncId} {caps:List D} (enc:α→List D) (xs:List α) (m:S→α→Option (Sum S E)) (f:S→Sy) (fe:E→Sy) (ex:E→Exit) (s0:S) (ev:Sum S E)
 (fz:List Nat) (hit:a9e X.P gf caps (xs.map enc)) (hm:a1W m xs s0=some ev) (heg:∀args w,(callFunc gf args).run X.P w= .ok (.enter gf args) w)
 (hg:evY st g=some (.fn gf [] caps)) (hcl:U0 caps=true) (hps:∀x,(enc x).length=ps.size) (hasg:Q4 fz assign=true) (hr:Q4 fz body=true) (hf:a8Z fz ps.toList=true) (hdom:∀s,b9w fz (f s).T=true) (hdome:∀e,b9w fz (fe e).T=true)
 (hsub:Q0 st (f s0)) (hdone:∀s,ev= .inl s→K .normal (f s)) (hstop:∀s,ev= .inr s→K (ex s) (fe s)) (hex:∀e,ex e= .ret∨∃id,ex e= .exit id)
 (hround:∀s x b,m s x=some b→b4N { X with dfs:= []} ps.toList (enc x) (f s) fun st1=>S1 { X with dfs:= []} assign st1<|b2a { X with dfs:= []} body fun e sy=>match e with
  | .normal=>∃s',b= .inl s'∧Q0 sy (f s')
  | .ret=>∃s',b= .inr s'∧ex s'= .ret∧Q0 sy (fe s')
  | .exit id=>∃s',b= .inr s'∧ex s'= .exit id∧Q0 sy (fe s')
  |_=>False):a6B X g ps assign body st K:=by
 have key:∀(pre:List (List D)) (x:List D),pre++ [x]<+:xs.map enc→∃y r,x=enc y∧xs=xs.take pre.length++y::r∧xs.take (pre.length+1)=xs.take pre.length++ [y]:=by
  rintro pre x ⟨t,ht⟩
  have hlt:pre.length<xs.length:=by
   have:=congrArg List.length ht
   simp at this;omega
  refine⟨xs[pre.length],xs.drop (pre.length+1), ?_, ?_, ?_⟩
  · have h1:(xs.map enc)[pre.length]?=some x:=by rw [←ht];simp
    rw [List.getElem?_map,List.getElem?_eq_getElem hlt]at h1
    exact(Option.some.inj h1).symm
  · rw [←List.drop_eq_getElem_cons hlt,List.take_append_drop]
  · rw [List.take_add_one,List.getElem?_eq_getElem hlt];rfl
 --a round that stops:its way out is the whole's
 have stop:∀(l:List α) (y:α) (r:List α) (e:E) (s:S),a1W m (l++ [y]) s=some (.inr e)→a1W m (l++y::r) s=some (.inr e):=by
  intro l y r e s
  induction l generalizing s with
  |nil=>
   intro h
   simp only [List.nil_append,a1W]at h⊢
   cases hb:m s y with
   |none=>rw [hb]at h;cases h
   |some b=>
    rw [hb]at h
    cases b with
    |inl s'=>cases h
    |inr e'=>exact h
  |cons z l ih=>
   intro h
   simp only [List.cons_append,a1W]at h⊢
   cases hb:m s z with
   |none=>rw [hb]at h;cases h
   |some b=>
    rw [hb]at h
    cases b with
    |inl s'=>exact ih s' h
    |inr e'=>exact h
 refine⟨⟨gf,caps,xs.map enc,fz,Sum S E,fun s=>match s with| .inl s=>f s| .inr e=>fe e,fun _ s=>match s with| .inl s=>f s| .inr e=>fe e,
  fun pre s=>∃s',s= .inl s'∧a1W m (xs.take pre.length) s0=some (.inl s'),fun e _ s=>∃s',s= .inr s'∧ex s'=e∧ev= .inr s', .inl s0,hg,hcl,hit,heg, ?_,hasg,hr,hf,hsub,⟨s0,rfl,rfl⟩, ?_, ?_, ?_, ?_, ?_⟩⟩
 · intro x hx
   obtain⟨y,_,rfl⟩:=List.mem_map.1 hx
   exact hps y
 · intro s d x hx
   cases s with
   |inl s=>exact b0h (hdom s) hx
   |inr s=>exact b0h (hdome s) hx
 · intro e s d x hx
   cases s with
   |inl s=>exact b0h (hdom s) hx
   |inr s=>exact b0h (hdome s) hx
 · rintro pre s x hpre ⟨s',rfl,hl⟩
   obtain⟨y,r,rfl,e2,e3⟩:=key _ _ hpre
   obtain⟨b,hb,hb2⟩:=b7c _ y r s0 hl (e2▸hm)
   have hlen:(pre++ [enc y]).length=pre.length+1:=by simp
   refine⟨_,fun e sy h=> ?_,hround s' y b hb⟩
   ·
     have hout:∀s',b= .inr s'→ev= .inr s':=by
      intro s' hbs
      subst hbs
      have:=stop _ y r s' s0 hb2
      rw [←e2,hm]at this
      exact Option.some.inj this
     cases e with
     |normal=>
      obtain⟨s2,rfl,h2⟩:=h
      exact⟨.inl s2,⟨s2,rfl,by rw [hlen,e3];exact hb2⟩,h2⟩
     |ret=>
      obtain⟨s2,h1,h2,h3⟩:=h
      exact⟨.inr s2,⟨s2,rfl,h2,hout s2 h1⟩,h3⟩
     |exit id=>
      obtain⟨s2,h1,h2,h3⟩:=h
      exact⟨.inr s2,⟨s2,rfl,h2,hout s2 h1⟩,h3⟩
     |_=>exact h.elim
 · rintro s ⟨s',rfl,hr⟩
   rw [List.length_map,List.take_length]at hr
   rw [hm]at hr
   exact hdone s' (Option.some.inj hr)
 · rintro e pre s hpre ⟨s',rfl,rfl,h2⟩ he
   exact hstop s' h2
end Go.Sx
namespace Go.Sx
open Go Go.RowKit
def c0L (X:Cy) (ops:List Oper) (l:List Oper):Sy→(Sy→Prop)→Prop:=by
 induction l with
 |nil=>exact fun st K=>K st
 |cons o rest ih=>exact fun st K=>a3b ops o.guard st (fun st=>y1 X st o.op (a7n X true st o.dst fun st=>ih st K)) (fun st=>W6 X st o.dst .und fun st=>ih st K)
theorem c4P (X:Cy) (ops l:List Oper):c0L X ops l=fun st K=>b6F X ops l st K:=by
 induction l with
 |nil=>rfl
 |cons o rest ih=>
  funext st K
  show a3b ops o.guard st (fun st=>y1 X st o.op (a7n X true st o.dst fun st=>c0L X ops rest st K)) (fun st=>W6 X st o.dst .und fun st=>c0L X ops rest st K)=_
  rw [ih];rfl
def a8y (X:Cy) (ops:List Oper) (p:PT):Sy→List (Nat×Option Nat)→(Sy→Prop)→Prop:=by
 induction p with
 |nil=>exact fun st _ K=>K st
 |op i S fl rest ih=>exact fun st pr K=>match b4j ops i with
  |some o=>a3b ops o.guard st
   (fun st=>b4v X ops rest i S fl pr o st fun st pr=>ih st pr K)
   (fun st=>W6 X st o.dst .und fun st=>ih st pr K)
  |none=>False
 |fork a b iha ihb=>exact fun st pr K=>iha st pr K∧ihb st pr K
theorem b6T (X:Cy) (ops:List Oper) (p:PT):a8y X ops p=fun st pr K=>a6X X ops p st pr K:=by
 induction p with
 |nil=>rfl
 |op i S fl rest ih=>
  funext st pr K
  show(match b4j ops i with
   |some o=>a3b ops o.guard st (fun st=>b4v X ops rest i S fl pr o st fun st pr=>a8y X ops rest st pr K) (fun st=>W6 X st o.dst .und fun st=>a8y X ops rest st pr K)
   |none=>False)=_
  rw [ih];rfl
 |fork a b iha ihb=>
  funext st pr K
  show(a8y X ops a st pr K∧a8y X ops b st pr K)=_
  rw [iha,ihb];rfl
def O7 (X:Cy) (c:Code):Sy→(Exit→Sy→Prop)→Prop:=by
 induction c with
 |skip=>exact fun st K=>K .normal st
 |region id ops draw=>exact fun st K=>match draw with
  |false=>c0L X ops.toList ops.toList st (K .normal)
  |true=>match b6N X.pl id with
   |some p=>a6r X.tt X.nt ops p=true∧(match st with|⟨T,H,nk⟩=>a8y X ops.toList p ⟨a7f ops.toList T,H,nk⟩ [] (K .normal))
   |none=>False
 |seq a b iha ihb=>exact fun st K=>iha st fun e st'=>match e with
  | .normal=>ihb st' K
  |e=>K e st'
 |cond c t e iht ihe=>exact fun st K=>match evY st c with
  |some (.v (.bool b))=>VIf b (iht st K) (ihe st K)
  |_=>False
 |block id c ih=>exact fun st K=>ih st fun e st'=>match e with
  | .exit j=>match Nat.beq j id with
   |true=>K .normal st'
   |false=>K (.exit j) st'
  |e=>K e st'
 |loop c ih=>exact fun st K=>q8 ih st K
 |exit id=>exact fun st K=>K (.exit id) st
 |ret=>exact fun st K=>K .ret st
 |scope c ih=>exact fun st K=>ih st K
 |label _=>exact fun st K=>K .normal st
 |_=>exact fun _ _=>False
theorem a0U (X:Cy) (c:Code):O7 X c=fun st K=>S1 X c st K:=by
 induction c with
 |region id ops draw=>
  funext st K
  show(match draw with
  |false=>c0L X ops.toList ops.toList st (K .normal)
  |true=>match b6N X.pl id with
   |some p=>a6r X.tt X.nt ops p=true∧(match st with|⟨T,H,nk⟩=>a8y X ops.toList p ⟨a7f ops.toList T,H,nk⟩ [] (K .normal))
   |none=>False)=_
  simp only [c4P,b6T];rfl
 |seq a b iha ihb=>
  funext st K
  show(O7 X a st fun e st'=>match e with| .normal=>O7 X b st' K|e=>K e st')=_
  rw [iha,ihb];rfl
 |cond c t e iht ihe=>
  funext st K
  show(match evY st c with|some (.v (.bool b))=>VIf b (O7 X t st K) (O7 X e st K)|_=>False)=_
  rw [iht,ihe];rfl
 |block id c ih=>
  funext st K
  show(O7 X c st fun e st'=>match e with| .exit j=>(match Nat.beq j id with|true=>K .normal st'|false=>K (.exit j) st')|e=>K e st')=_
  rw [ih];rfl
 |loop c ih=>
  funext st K
  show q8 (O7 X c) st K=_
  rw [ih];rfl
 |scope c ih=>
  funext st K
  show O7 X c st K=_
  rw [ih];rfl
 |_=>rfl
theorem b0j {X:Cy} {c:Code} {st:Sy} {K:Exit→Sy→Prop} (h:O7 X c st K):S1 X c st K:=by rw [a0U]at h;exact h
def b9J (X:Cy) (body:Code) (K:Exit→Sy→Prop):Exit→Sy→Prop
 | .normal,st=>O7 X body st K
 |_,_=>False
theorem b8k (X:Cy) (body:Code) (K:Exit→Sy→Prop):b9J X body K=b2a X body K:=by
 funext e st
 cases e<;>first|rfl|(show O7 X body st K=_;rw [a0U];rfl)
def a7P (X:Cy) (c:Code):Sy→(Exit→Sy→Prop)→Prop:=by
 induction c with
 |seq a b iha ihb=>exact fun st K=>iha st fun e st'=>match e with
  | .normal=>ihb st' K
  |e=>K e st'
 |block id c ih=>exact fun st K=>ih st fun e st'=>match e with
  | .exit j=>(match Nat.beq j id with|true=>K .normal st'|false=>K (.exit j) st')
  |e=>K e st'
 |cond c t e iht ihe=>exact fun st K=>match evY st c with
  |some (.v (.bool b))=>VIf b (iht st K) (ihe st K)
  |_=>False
 |scope c ih=>exact fun st K=>ih st K
 |rangeFunc g ps assign body=>exact fun st K=>a6B X g ps assign body st K
 |skip=>exact fun st K=>∀ds,O7 { X with dfs:=ds} .skip st K
 |region id ops draw=>exact fun st K=>∀ds,O7 { X with dfs:=ds} (.region id ops draw) st K
 |loop c=>exact fun st K=>∀ds,O7 { X with dfs:=ds} (.loop c) st K
 |exit id=>exact fun st K=>∀ds,O7 { X with dfs:=ds} (.exit id) st K
 |ret=>exact fun st K=>∀ds,O7 { X with dfs:=ds} .ret st K
 |label l=>exact fun st K=>∀ds,O7 { X with dfs:=ds} (.label l) st K
 |_=>exact fun st K=>List Deferred→False
theorem c0V (X:Cy) (c:Code):a7P X c=fun st K=>a7q X c st K:=by
 induction c with
 |seq a b iha ihb=>
  funext st K
  show(a7P X a st fun e st'=>match e with| .normal=>a7P X b st' K|e=>K e st')=_
  rw [iha,ihb];rfl
 |cond c t e iht ihe=>
  funext st K
  show(match evY st c with|some (.v (.bool b))=>VIf b (a7P X t st K) (a7P X e st K)|_=>False)=_
  rw [iht,ihe];rfl
 |block id c ih=>
  funext st K
  show(a7P X c st fun e st'=>match e with| .exit j=>(match Nat.beq j id with|true=>K .normal st'|false=>K (.exit j) st')|e=>K e st')=_
  rw [ih];rfl
 |scope c ih=>
  funext st K
  show a7P X c st K=_
  rw [ih];rfl
 |rangeFunc=>rfl
 |skip=>funext st K;show(∀ds,O7 { X with dfs:=ds} .skip st K)=_;simp only [a0U];rfl
 |region id ops draw=>funext st K;show(∀ds,O7 { X with dfs:=ds} (.region id ops draw) st K)=_;simp only [a0U];rfl
 |loop c=>funext st K;show(∀ds,O7 { X with dfs:=ds} (.loop c) st K)=_;simp only [a0U];rfl
 |exit id=>funext st K;show(∀ds,O7 { X with dfs:=ds} (.exit id) st K)=_;simp only [a0U];rfl
 |ret=>funext st K;show(∀ds,O7 { X with dfs:=ds} .ret st K)=_;simp only [a0U];rfl
 |label l=>funext st K;show(∀ds,O7 { X with dfs:=ds} (.label l) st K)=_;simp only [a0U];rfl
 |_=>rfl
def b1K (X:Cy) (l:Nat) (xs:List (List D)) (ops:List Oper) (r:List Oper):Sy→Pre→(Sy→Pre→Prop)→Prop:=by
 induction r with
 |nil=>exact fun st p K=>K st p
 |cons o rest ih=>exact fun st p K=>match a6L st o with
  |some args=>a3b ops o.guard st (fun st=>a1o X l xs st o args p fun st p=>ih st p K) (fun st=>W6 X st o.dst .und fun st=>ih st p K)
  |none=>c4Z X ops o st fun st=>ih st p K
theorem c2h (X:Cy) (l:Nat) (xs:List (List D)) (ops:List Oper) (r:List Oper):b1K X l xs ops r=fun st p K=>b7k X l xs ops r st p K:=by
 induction r with
 |nil=>rfl
 |cons o rest ih=>
  funext st p K
  show(match a6L st o with
   |some args=>a3b ops o.guard st (fun st=>a1o X l xs st o args p fun st p=>b1K X l xs ops rest st p K) (fun st=>W6 X st o.dst .und fun st=>b1K X l xs ops rest st p K)
   |none=>c4Z X ops o st fun st=>b1K X l xs ops rest st p K)=_
  rw [ih];rfl
def a6D (X:Cy) (l:Nat) (xs:List (List D)) (yl:List (Nat×Nat)) (c:Code):Sy→Pre→(Exit→Sy→Pre→Prop)→Prop:=by
 induction c with
 |skip=>exact fun st p K=>K .normal st p
 |region id ops draw=>exact fun st p K=>match draw with
  |false=>b1K X l xs ops.toList ops.toList st p (K .normal)
  |true=>match b6N X.pl id with
   |some pl=>match c3W yl id with
    |some j=>a8e ops j=true∧a6r X.tt X.nt (ops.toList.take j).toArray pl=true∧(match st with|⟨T,H,nk⟩=>a8y X (ops.toList.take j) pl ⟨a7f (ops.toList.take j) T,H,nk⟩ [] fun st=>b1K X l xs ops.toList (ops.toList.drop j) st p (K .normal))
    |none=>O7 X (.region id ops true) st fun e st=>K e st p
   |none=>False
 |seq a b iha ihb=>exact fun st p K=>iha st p fun e st' p'=>match e with
  | .normal=>ihb st' p' K
  |e=>K e st' p'
 |cond c t e iht ihe=>exact fun st p K=>match evY st c with
  |some (.v (.bool b))=>VIf b (iht st p K) (ihe st p K)
  |_=>False
 |block id c ih=>exact fun st p K=>ih st p fun e st' p'=>match e with
  | .exit j=>match Nat.beq j id with
   |true=>K .normal st' p'
   |false=>K (.exit j) st' p'
  |e=>K e st' p'
 |loop c ih=>exact fun st p K=>a8B ih st p K
 |exit id=>exact fun st p K=>K (.exit id) st p
 |ret=>exact fun st p K=>K .ret st p
 |scope c ih=>exact fun st p K=>ih st p K
 |label _=>exact fun st p K=>K .normal st p
 |_=>exact fun _ _ _=>False
theorem c0x (X:Cy) (l:Nat) (xs:List (List D)) (yl:List (Nat×Nat)) (c:Code):a6D X l xs yl c=fun st p K=>a5W X l xs yl c st p K:=by
 induction c with
 |region id ops draw=>
  funext st p K
  show(match draw with
  |false=>b1K X l xs ops.toList ops.toList st p (K .normal)
  |true=>match b6N X.pl id with
   |some pl=>match c3W yl id with
    |some j=>a8e ops j=true∧a6r X.tt X.nt (ops.toList.take j).toArray pl=true∧(match st with|⟨T,H,nk⟩=>a8y X (ops.toList.take j) pl ⟨a7f (ops.toList.take j) T,H,nk⟩ [] fun st=>b1K X l xs ops.toList (ops.toList.drop j) st p (K .normal))
    |none=>O7 X (.region id ops true) st fun e st=>K e st p
   |none=>False)=_
  simp only [c2h,b6T,a0U];rfl
 |seq a b iha ihb=>
  funext st p K
  show(a6D X l xs yl a st p fun e st' p'=>match e with| .normal=>a6D X l xs yl b st' p' K|e=>K e st' p')=_
  rw [iha,ihb];rfl
 |cond c t e iht ihe=>
  funext st p K
  show(match evY st c with|some (.v (.bool b))=>VIf b (a6D X l xs yl t st p K) (a6D X l xs yl e st p K)|_=>False)=_
  rw [iht,ihe];rfl
 |block id c ih=>
  funext st p K
  show(a6D X l xs yl c st p fun e st' p'=>match e with| .exit j=>(match Nat.beq j id with|true=>K .normal st' p'|false=>K (.exit j) st' p')|e=>K e st' p')=_
  rw [ih];rfl
 |loop c ih=>
  funext st p K
  show a8B (a6D X l xs yl c) st p K=_
  rw [ih];rfl
 |scope c ih=>
  funext st p K
  show a6D X l xs yl c st p K=_
  rw [ih];rfl
 |_=>rfl
def b9H (X:Cy) (n:Nat):Code→Sy→(Exit→Sy→Prop)→(Sy→Prop)→Prop:=by
 induction n with
 |zero=>exact fun _ st _ KT=>KT st
 |succ n ih=>exact fun c st K KT=>match c with
  | .seq a b=>O7 X a st fun e st'=>match e with
   | .normal=>ih b st' K KT
   |e=>K e st'
  |_=>False
theorem c0Q (X:Cy) (n:Nat):b9H X n=fun c st K KT=>b9K X n c st K KT:=by
 induction n with
 |zero=>rfl
 |succ n ih=>
  funext c st K KT
  cases c with
  |seq a b=>
   show(O7 X a st fun e st'=>match e with| .normal=>b9H X n b st' K KT|e=>K e st')=_
   rw [ih,a0U];rfl
  |_=>rfl
theorem c4s {X:Cy} (hP:POK X.P X.tt) {f:FuncId} {fn:Func} {c:Code} (args:List D) {Qr:D→Prop} (hf:X.P.funcs[f]?=some fn) (hb:fn.body=some c) (hn:X.nt=fn.ntmps) (hl:args.length≤fn.ntmps)
 (h:O7 X c ⟨a2z 0 args, [],0⟩ (b9z X fn.results.toList Qr)) (h0:X.dfs= []:=by rfl) (hg:fn.ntmps≤N8:=by exact Nat.le_of_ble_eq_true rfl):d7 X.P f args Qr:=
 c5q hP args hf hb hn hl (b0j h) h0 hg
theorem c4C {X:Cy} (hP:POK X.P X.tt) {f:FuncId} {fn:Func} {c:Code} (args:List D) {Qr:D→Prop} (hf:X.P.funcs[f]?=some fn) (hb:fn.body=some c) (hn:X.nt=fn.ntmps) (hl:args.length≤fn.ntmps)
 (h:a7P X c ⟨a2z 0 args, [],0⟩ (b9z X fn.results.toList Qr)) (hg:fn.ntmps≤N8:=by exact Nat.le_of_ble_eq_true rfl):d7 X.P f args Qr:=
 c5t hP args hf hb hn hl (by rw [c0V]at h;exact h) hg
theorem b6E {X:Cy} (hP:POK X.P X.tt) {f:FuncId} {fn:Func} {c:Code} (args:List D) {rows:List (Nat×Nat×List D×TypeId)} {cells:List D} (hf:X.P.funcs[f]?=some fn) (hb:fn.body=some c) (hn:X.nt=fn.ntmps) (hl:args.length≤fn.ntmps) (hfl:A9 cells=true)
 (h:O7 X c ⟨a2z 0 args, [],0⟩ (c2B X fn.results.toList rows cells)) (h0:X.dfs= []:=by rfl) (hg:fn.ntmps≤N8:=by exact Nat.le_of_ble_eq_true rfl):b5u X.P f args rows cells:=
 c5I hP args hf hb hn hl hfl (b0j h) h0 hg
theorem a9W {X:Cy} (hP:POK X.P X.tt) {f:FuncId} {fn:Func} {c:Code} (args:List D) {z n:Nat} {l:List D} {ty:TypeId} (hf:X.P.funcs[f]?=some fn) (hb:fn.body=some c) (hn:X.nt=fn.ntmps) (hl:args.length≤fn.ntmps)
 (h:O7 X c ⟨a2z 0 args, [],0⟩ (b7y X fn.results.toList z n l ty)) (h0:X.dfs= []:=by rfl) (hg:fn.ntmps≤N8:=by exact Nat.le_of_ble_eq_true rfl):b1h X.P f args z n l ty:=
 c5u hP args hf hb hn hl (b0j h) h0 hg
theorem M2.ofZ {X:Cy} {f:FuncId} {args:List D} {dst:Option Nat} {st:Sy} {K:Sy→Prop} (hP:POK X.P X.tt) (st0 st1:Sy) (pl:List (Nat×PT)) (ln un inl:List Nat) {fn:Func} {c:Code} (hf:X.P.funcs[f]?=some fn) (hb:fn.body=some c)
 (hg:Nat.ble fn.ntmps 1000000=true) (hl:Nat.ble args.length fn.ntmps=true) (hs:Q0 ⟨a2z 0 args++a0j X.nt st.T,st.H,st.nk⟩ st0)
 (hbody:∀sv,O7 ⟨X.P,X.tt,fn.ntmps,pl,ln,un, [],inl,sv⟩ c st0 (c2T X ⟨X.P,X.tt,fn.ntmps,pl,ln,un, [],inl, []⟩ fn.results.toList dst fun sy=>Q0 sy st1)) (hk:K st1):M2 X f args dst st K:=
 M2.ofP hP st0 st1 pl ln un inl hf hb hg hl hs (fun sv=>b0j (hbody sv)) hk
theorem a6B.ofZ {X:Cy} {g:Operand} {ps:Array Tmp} {assign body:Code} {st:Sy} {K:Exit→Sy→Prop} {α S E:Type} {gf:FuncId} {caps:List D} (enc:α→List D) (xs:List α) (m:S→α→Option (Sum S E)) (f:S→Sy) (fe:E→Sy) (ex:E→Exit) (s0:S) (ev:Sum S E)
 (fz:List Nat) (hit:a9e X.P gf caps (xs.map enc)) (hm:a1W m xs s0=some ev) (heg:∀args w,(callFunc gf args).run X.P w= .ok (.enter gf args) w)
 (hg:evY st g=some (.fn gf [] caps)) (hcl:U0 caps=true) (hps:∀x,(enc x).length=ps.size) (hasg:Q4 fz assign=true) (hr:Q4 fz body=true) (hf:a8Z fz ps.toList=true) (hdom:∀s,b9w fz (f s).T=true) (hdome:∀e,b9w fz (fe e).T=true)
 (hsub:Q0 st (f s0)) (hdone:∀s,ev= .inl s→K .normal (f s)) (hstop:∀s,ev= .inr s→K (ex s) (fe s)) (hex:∀e,ex e= .ret∨∃id,ex e= .exit id)
 (hround:∀s x b,m s x=some b→b4N { X with dfs:= []} ps.toList (enc x) (f s) fun st1=>O7 { X with dfs:= []} assign st1<|b9J { X with dfs:= []} body fun e sy=>match e with
  | .normal=>∃s',b= .inl s'∧Q0 sy (f s')
  | .ret=>∃s',b= .inr s'∧ex s'= .ret∧Q0 sy (fe s')
  | .exit id=>∃s',b= .inr s'∧ex s'= .exit id∧Q0 sy (fe s')
  |_=>False):a6B X g ps assign body st K:=
 a6B.of enc xs m f fe ex s0 ev fz hit hm heg hg hcl hps hasg hr hf hdom hdome hsub hdone hstop hex fun s x b hb=>by
  have h:=hround s x b hb
  simp only [a0U,b8k]at h
  exact h
theorem c3G {X:Cy} (hP:POK X.P X.tt) {f:FuncId} {fn:Func} {c:Code} (caps:List D) (xs:List (List D)) (yl:List (Nat×Nat)) (hf:X.P.funcs[f]?=some fn) (hb:fn.body=some c) (hn:X.nt=fn.ntmps) (hl:caps.length+1≤fn.ntmps) (hres:fn.results= #[])
 (h:∀l,a6D X l xs yl c ⟨a2z 0 (.v (.func (.yield l) #[] #[])::caps), [],0⟩ (some []) (c7q xs)) (h0:X.dfs= []:=by rfl) (hg:fn.ntmps≤N8:=by exact Nat.le_of_ble_eq_true rfl):a9e X.P f caps xs:=
 c4o hP caps xs yl hf hb hn hl hres (fun l=>by have h:=h l;rw [c0x]at h;exact h) h0 hg
end Go.Sx
namespace Go.Sx
open Go Go.RowKit
def JK (p:Prop) (K:Exit→Sy→Prop) (sh:Sy):Exit→Sy→Prop:=fun e st=>match e with
 | .normal=>p∧Q0 st sh
 |e=>K e st
inductive b5e (t:(Exit→Sy→Prop)→Prop) (K:Exit→Sy→Prop):Prop
 |two (h:t K)
 |join (sh:Sy) (p:Prop) (h:t (JK p K sh)) (hk:p→K .normal sh)
def c5z (id:Nat) (K:Exit→Sy→Prop):Exit→Sy→Prop:=fun e st'=>match e with
 | .exit j=>match Nat.beq j id with
  |true=>K .normal st'
  |false=>K (.exit j) st'
 |e=>K e st'
noncomputable def c7x (l:List Oper):Bool:=by
 induction l with
 |nil=>exact false
 |cons o _ ih=>exact match o.guard with
  |some _=>true
  |none=>ih
def c1Q (X:Cy) (id:Nat) (ops:Array Oper) (draw:Bool) (st:Sy) (K:Exit→Sy→Prop):Prop:=match draw with
 |false=>c0L X ops.toList ops.toList st (K .normal)
 |true=>match b6N X.pl id with
  |some p=>a6r X.tt X.nt ops p=true∧(match st with|⟨T,H,nk⟩=>a8y X ops.toList p ⟨a7f ops.toList T,H,nk⟩ [] (K .normal))
  |none=>False
def b1o (X:Cy) (c:Code):Sy→(Exit→Sy→Prop)→Prop:=by
 induction c with
 |skip=>exact fun st K=>K .normal st
 |region id ops draw=>exact fun st K=>match c7x ops.toList with
  |false=>c1Q X id ops draw st K
  |true=>b5e (c1Q X id ops draw st) K
 |seq a b iha ihb=>exact fun st K=>iha st fun e st'=>match e with
  | .normal=>ihb st' K
  |e=>K e st'
 |cond c t e iht ihe=>exact fun st K=>match evY st c with
  |some (.v (.bool b))=>b5e (fun K=>VIf b (iht st K) (ihe st K)) K
  |_=>False
 |block id c ih=>exact fun st K=>b5e (fun K=>ih st (c5z id K)) K
 |loop c ih=>exact fun st K=>q8 ih st K
 |exit id=>exact fun st K=>K (.exit id) st
 |ret=>exact fun st K=>K .ret st
 |scope c ih=>exact fun st K=>ih st K
 |label _=>exact fun st K=>K .normal st
 |_=>exact fun _ _=>False
section
variable {A : Nat → Prop} {X : Cy} {w0 : World} {bor : List Nat}
def OkJ (A:Nat→Prop) (X:Cy) (w0:World) (bor:List Nat) (c:Code) (t:Sy→(Exit→Sy→Prop)→Prop):Prop:=∀(st:St) (sy:Sy) (a:Act) (w:World) (K:Exit→Sy→Prop) (Q:Exit→Act→World→Prop),t sy K→Sim A st sy→Rel (cx X w0 bor) st a w→
 (∀e st' sy' a' w',plain e→K e sy'→Sim A st' sy'→Lv (cx X w0 bor) st.H w st' a' w'→Q e a' w')→c.wp X.P Q a w
theorem b9S (hA:∀b,(w0.heap.size≤b∨b∈bor)→A b) {c:Code} {t:Sy→(Exit→Sy→Prop)→Prop} (ih:OkJ A X w0 bor c t):OkJ A X w0 bor c fun sy K=>b5e (t sy) K:=by
 intro st sy a w K Q h hs hr hQ
 cases h with
 |two h=>exact ih st sy a w K Q h hs hr hQ
 |join sh p h hk=>
  refine ih st sy a w _ Q h hs hr fun e st1 sy1 a1 w1 hp hk1 hs1 hl=> ?_
  cases e with
  |normal=>
   have hsb:p∧Q0 sy1 sh:=hk1
   obtain⟨st3,hs3,hr3,hb3⟩:=hsb.2.rel hA hs1 hl.rel
   exact hQ .normal st3 sh a1 w1 trivial (hk hsb.1) hs3 ⟨hr3,hl.fx,fun b hb=>hl.bs b (hb3 b hb)⟩
  |exit j=>exact hQ _ _ _ _ _ hp hk1 hs1 hl
  |ret=>exact hQ _ _ _ _ _ hp hk1 hs1 hl
  |goto l=>exact hp.elim
  |panic c=>exact hp.elim
  |outgrown=>exact hp.elim
theorem c2H (hA:∀b,(w0.heap.size≤b∨b∈bor)→A b) (hP:POK X.P X.tt) (c:Code):OkJ A X w0 bor c (b1o X c):=by
 induction c with
 |skip=>exact fun st sy a w K Q h hs hr hQ=>wp_skip (hQ .normal st sy a w trivial h hs (Lv.refl hr))
 |label l=>exact fun st sy a w K Q h hs hr hQ=>wp_label (hQ .normal st sy a w trivial h hs (Lv.refl hr))
 |exit id=>exact fun st sy a w K Q h hs hr hQ=>wp_exit (hQ (.exit id) st sy a w trivial h hs (Lv.refl hr))
 |ret=>exact fun st sy a w K Q h hs hr hQ=>wp_ret (hQ .ret st sy a w trivial h hs (Lv.refl hr))
 |region id ops draw=>
  have reg:OkJ A X w0 bor (.region id ops draw) fun sy K=>c1Q X id ops draw sy K:=fun st sy a w K Q h hs hr hQ=>by
   have h:O7 X (.region id ops draw) sy K:=h
   exact a3M hA hP _ st sy a w K Q (b0j h) hs hr hQ
  intro st sy a w K Q h hs hr hQ
  have h:(match c7x ops.toList with|false=>c1Q X id ops draw sy K|true=>b5e (c1Q X id ops draw sy) K):=h
  split at h
  · exact reg st sy a w K Q h hs hr hQ
  · exact b9S hA reg st sy a w K Q h hs hr hQ
 |seq x y ihx ihy=>
  intro st sy a w K Q h hs hr hQ
  refine wp_seq (ihx st sy a w _ _ h hs hr fun e st1 sy1 a1 w1 hp hk hs1 hl=> ?_)
  cases e with
  |normal=>exact ihy st1 sy1 a1 w1 K Q hk hs1 hl.rel fun e st2 sy2 a2 w2 hp hk2 hs2 hl2=>hQ e st2 sy2 a2 w2 hp hk2 hs2 (Lv.trans hl hl2)
  |exit id=>exact hQ _ _ _ _ _ hp hk hs1 hl
  |ret=>exact hQ _ _ _ _ _ hp hk hs1 hl
  |goto l=>exact hp.elim
  |panic c=>exact hp.elim
  |outgrown=>exact hp.elim
 |cond c x y ihx ihy=>
  intro st sy a w K Q h hs hr hQ
  have h:(match evY sy c with|some (.v (.bool b))=>b5e (fun K=>VIf b (b1o X x sy K) (b1o X y sy K)) K|_=>False):=h
  split at h
  · rename_i b hc
    obtain⟨s,h1,h2,_⟩:=j5 hs hc
    have:=h2.sc;subst this
    have hb:a.eval c= .bool b:=by simpa [den]using (hr.ev c _ h1).2
    have main:∀K':Exit→Sy→Prop,VIf b (b1o X x sy K') (b1o X y sy K')→(∀e st' sy' a' w',plain e→K' e sy'→Sim A st' sy'→Lv (cx X w0 bor) st.H w st' a' w'→Q e a' w')→(Code.cond c x y).wp X.P Q a w:=fun K' h hQ=>by
     cases b with
     |true=>exact wp_cond_true hb (ihx st sy a w K' Q h hs hr hQ)
     |false=>exact wp_cond_false hb (ihy st sy a w K' Q h hs hr hQ)
    cases h with
    |two h=>exact main K h hQ
    |join sh p h hk=>
     refine main _ h fun e st1 sy1 a1 w1 hp hk1 hs1 hl=> ?_
     cases e with
     |normal=>
      have hsb:p∧Q0 sy1 sh:=hk1
      obtain⟨st3,hs3,hr3,hb3⟩:=hsb.2.rel hA hs1 hl.rel
      exact hQ .normal st3 sh a1 w1 trivial (hk hsb.1) hs3 ⟨hr3,hl.fx,fun b hb=>hl.bs b (hb3 b hb)⟩
     |exit j=>exact hQ _ _ _ _ _ hp hk1 hs1 hl
     |ret=>exact hQ _ _ _ _ _ hp hk1 hs1 hl
     |goto l=>exact hp.elim
     |panic c=>exact hp.elim
     |outgrown=>exact hp.elim
  · exact h.elim
 |block id c ih=>
  refine b9S hA (t:=fun sy K=>b1o X c sy (c5z id K)) ?_
  intro st sy a w K Q h hs hr hQ
  refine wp_block (ih st sy a w _ _ h hs hr fun e st1 sy1 a1 w1 hp hk hs1 hl=> ?_)
  unfold c5z at hk
  cases e with
  |normal=>exact hQ _ _ _ _ _ hp hk hs1 hl
  |exit j=>
   simp only [Exit.inBlock]
   simp only at hk
   split at hk
   · rename_i hb
     rw [if_pos (w4 hb)]
     exact hQ .normal _ _ _ _ trivial hk hs1 hl
   · rename_i hb
     rw [if_neg (a2V hb)]
     exact hQ _ _ _ _ _ hp hk hs1 hl
  |ret=>exact hQ _ _ _ _ _ hp hk hs1 hl
  |goto l=>exact hp.elim
  |panic c=>exact hp.elim
  |outgrown=>exact hp.elim
 |scope c ih=>
  intro st sy a w K Q h hs hr hQ
  refine wp_scope_straight (ih st sy a w K _ h hs hr fun e st1 sy1 a1 w1 hp hk hs1 hl=> ?_)
  cases e with
  |normal=>exact hQ _ _ _ _ _ hp hk hs1 hl
  |exit j=>exact hQ _ _ _ _ _ hp hk hs1 hl
  |ret=>exact hQ _ _ _ _ _ hp hk hs1 hl
  |goto l=>exact hp.elim
  |panic c=>exact hp.elim
  |outgrown=>exact hp.elim
 |loop c ih=>
  intro st sy a w K Q h hs hr hQ
  have h:q8 (b1o X c) sy K:=h
  obtain⟨α,f,inv,μ,⟨x0,hsub,hinv⟩,hround⟩:=h.ex
  obtain⟨st0,hs0,hr0,hb0⟩:=hsub.rel hA hs hr
  refine wp_loop_ghost (fun n a1 w1=>∃x,μ x=n∧inv x∧∃st1,Sim A st1 (f x)∧Lv (cx X w0 bor) st.H w st1 a1 w1) (μ x0) ⟨x0,rfl,hinv,st0,hs0,hr0,Fx.refl _ _,fun b hb=> .inl (hb0 b hb)⟩ ?_
  rintro n a1 w1 ⟨x,rfl,hinv1,st1,hs1,hlv⟩
  refine ih st1 (f x) a1 w1 _ _ (hround x hinv1) hs1 hlv.rel fun e st2 sy2 a2 w2 hp hk hs2 hl=> ?_
  have hl2:=Lv.trans hlv hl
  cases e with
  |normal=>
   obtain⟨y,hsb,hi,hlt⟩:=hk
   obtain⟨st3,hs3,hr3,hb3⟩:=hsb.rel hA hs2 hl2.rel
   exact⟨μ y,hlt,y,rfl,hi,st3,hs3,hr3,hl2.fx,fun b hb=>hl2.bs b (hb3 b hb)⟩
  |exit j=>exact hQ _ _ _ _ _ hp hk hs2 hl2
  |ret=>exact hQ _ _ _ _ _ hp hk hs2 hl2
  |goto l=>exact hp.elim
  |panic c=>exact hp.elim
  |outgrown=>exact hp.elim
 |_=>intro st sy a w K Q h hs hr hQ;exact h.elim
end
theorem b9Q {X:Cy} (hP:POK X.P X.tt) {f:FuncId} {fn:Func} {c:Code} (args:List D) {Qr:D→Prop} (hf:X.P.funcs[f]?=some fn) (hb:fn.body=some c) (hn:X.nt=fn.ntmps) (hl:args.length≤fn.ntmps)
 (h:b1o X c ⟨a2z 0 args, [],0⟩ (b9z X fn.results.toList Qr)) (h0:X.dfs= []:=by rfl) (hg:fn.ntmps≤N8:=by exact Nat.le_of_ble_eq_true rfl):d7 X.P f args Qr:=by
 intro ok w vl hrep hok
 have hA:∀b,(w.heap.size≤b∨b∈([]:List Nat))→(fun b=>b<w.heap.size→ok b) b:=fun b hb h=>by
  rcases hb with hb|hb
  · omega
  · cases hb
 refine calls_of_wp hf hb ((c2H (A:=fun b=>b<w.heap.size→ok b) (w0:=w) (bor:= []) hA hP c) ⟨a4c 0 (vs vl), [],0,w,w.heap.size, []⟩ ⟨a2z 0 args, [],0⟩ _ _ _ _ h ?_ ?_ fun e st' sy' a' w' hp hk hs' hlv=> ?_)
 · refine⟨fun d x hx=> ?_,fun k e he=>by simp [j3]at he,rfl,fun j _=>a3o,fun _ _=>rfl⟩
   obtain⟨_,h2⟩:=a2q hx
   obtain⟨y,h3,h4⟩:=hrep.get h2
   right
   refine⟨.v y,a4w (Nat.zero_le _) ?_,Rep.rel _ _ (Rep.mono (fun b hb=>⟨⟨⟨.inl (hok b hb),fun _=>hb⟩,hok b hb,fun c hc=>by simp [bs]at hc⟩,rfl⟩) _ _ h4)⟩
   have:∀(l:List Value) (j:Nat),(vs l)[j]?=(l[j]?).map .v:=by
    intro l
    induction l with
    |nil=>simp [vs]
    |cons x l ih=>intro j;cases j<;>simp [vs,ih]
   rw [this,h3];rfl
 · refine⟨by simp [cx,hn,←hrep.length];omega,fun d s hs=> ?_,h0.symm,Cls.nil (cx X w []) 0,Nat.le_refl _,by simp⟩
   obtain⟨_,h2⟩:=a2r (n:=0) hs
   have:∀(l:List Value) (j:Nat),(vs l)[j]?=(l[j]?).map .v:=by
    intro l
    induction l with
    |nil=>simp [vs]
    |cons x l ih=>intro j;cases j<;>simp [vs,ih]
   simp only [Nat.sub_zero]at h2
   rw [this]at h2
   cases hv:vl[d]? with
   |none=>rw [hv]at h2;cases h2
   |some y=>
    rw [hv]at h2
    cases h2
    right
    have hlt:=(List.getElem?_eq_some_iff.1 hv).1
    rw [P7,if_pos (by have:=hrep.length;omega),Array.getElem?_append_left (by simpa using hlt)]
    simpa [den]using hv
 · have main:∀ {r:D} {s:SV},a2n sy' r Qr→c6 (okS (fun b=>b<w.heap.size→ok b) st') st'.w (B1 st') r s→(results fn a'.tmps).run X.P w'= .ok (den st'.H s) w'→a'.defers= []∧∃v,(results fn a'.tmps).run X.P w'= .ok v w'∧∃v1 r,Ending.returned v= .returned v1∧Qr r∧Rep (fun b=>ok b∨(w.heap.size≤b∧b<w'.heap.size)) w' r v1∧Below w.heap.size w w':=by
    intro r s hret hrel hrun
    obtain⟨r',hq,hrp⟩:=b0g hA hret hs' hlv.rel hrel
    refine⟨hlv.rel.dfs.trans h0,_,hrun,_,r',rfl,hq,Rep.mono (fun b hb=>⟨?_,rfl⟩) _ _ hrp,hlv.fx.below⟩
    by_cases hlt:b<w.heap.size
    · exact .inl (hb.1 hlt)
    · exact .inr ⟨by omega,hb.2⟩
   have fin:(match a1m X sy' fn.results.toList with
    |some [s]=>a2n sy' s Qr
    |some l=>a2n sy' (.tup l) Qr
    |none=>False)→a'.defers= []∧∃v,(results fn a'.tmps).run X.P w'= .ok v w'∧∃v1 r,Ending.returned v= .returned v1∧Qr r∧Rep (fun b=>ok b∨(w.heap.size≤b∧b<w'.heap.size)) w' r v1∧Below w.heap.size w w':=by
    intro hk
    cases hres:a1m X sy' fn.results.toList with
    |none=>rw [hres]at hk;exact hk.elim
    |some l=>
     rw [hres]at hk
     obtain⟨l',h1,h2⟩:=a3I (w0:=w) (bor:= []) hs' hres
     have hrun:=a1U (X:=cx X w []) hP.tt hlv.rel h1
     match l,l',h2,hk,hrun with
     | [s], [s'],h2,hk,hrun=>exact main hk h2.1 hrun
     | [], [],h2,hk,hrun=>exact main (s:= .tup []) hk (by simp only [c6];exact .inl ⟨[],rfl,trivial⟩) (by simpa [den,a8u,cx]using hrun)
     |x::y::l,x'::y'::l',h2,hk,hrun=>exact main (s:= .tup (x'::y'::l')) hk (by simp only [c6];exact .inl ⟨_,rfl,h2⟩) (by simpa [den,a8u,cx]using hrun)
     | [],_::_,h2,_,_=>simp [c5]at h2
     | [_], [],h2,_,_=>simp [c5]at h2
     | [_],_::_::_,h2,_,_=>simp [c5]at h2
     |_::_::_, [],h2,_,_=>simp [c5]at h2
     |_::_::_, [_],h2,_,_=>simp [c5]at h2
   cases e with
   |normal=>exact fin hk
   |ret=>exact fin hk
   |exit id=>exact hk.elim
   |goto l=>exact hp.elim
   |panic c=>exact hp.elim
   |outgrown=>exact hp.elim
end Go.Sx
namespace Go.Sx
open Go Go.RowKit
theorem vb {α:Type} {b:Bool} {p q:Prop} {x y r:Option α} (h:(if b=true then x else y)=r) (h1:b=true→x=r→p) (h2:b=false→y=r→q):VIf b p q:=VIf.b h1 h2 h
theorem cy {α β:Type} {P:Program} {f:FuncId} {args:List D} {st:Sy} {K:Sy→D→Prop} {o:Option α} {k:α→Option β} {r:β} {c:α→D} (h:Option.bind o k=some r) (hd:∀x,o=some x→d7 P f args fun y=>y=c x) (hk:∀x,k x=some r→K st (c x)):a4R P f args st K:=by
 obtain⟨x,hx,hm⟩:=b9 h
 exact a4R.det (hd x hx) (hk x hm)
theorem co {α β:Type} {P:Program} {seq:Bool} {f:FuncId} {fa:List D} {st st':Sy} {K:Sy→D→Prop} {o:Option α} {k:α→Option β} {r:β} {c:α→D} (h:Option.bind o k=some r) (hd:∀x,o=some x→d7 P f fa fun y=>y=c x) (hk:∀x,k x=some r→match a5H (c x),seq with
 |true,_=>K st (c x)
 |false,true=>K st' (c x)
 |false,false=>False):b0s P seq f fa st st' K:=by
 obtain⟨x,hx,hm⟩:=b9 h
 exact b0s.det (hd x hx) (hk x hm)
theorem _root_.Eq.rl {α:Type} {a r:α} {f:α→D} {x:D} (hm:some a=some r) (h:leD x (f a)):d0 x fun y=>y=f r:=by
 cases hm;exact c9j h
theorem _root_.Eq.rr {α:Type} {a r:α} {f:α→D} {x:D} (hm:some a=some r) (h:x=f a:=by rfl):d0 x fun y=>y=f r:=hm.rl (h▸c9h _)
def lkL (T:List (Nat×D)):List (Nat×D)→Option (List D)
 | []=>some []
 |(d,_)::r=>match s7 T d,lkL T r with
  |some x,some l=>some (x::l)
  |_,_=>none
def bkL (n:Nat):List (Nat×D)→List D
 | []=> []
 |(_,s)::r=>back n s::bkL n r
theorem tA {n:Nat} {T:List (Nat×D)}:∀ {r:List (Nat×D)},lkL T r=some (bkL n r)→b2t n T r
 | [],_=>trivial
 |(d,s)::r,h=>by
  simp only [lkL,bkL]at h
  split at h
  · rename_i x l h1 h2
    simp only [Option.some.injEq,List.cons.injEq]at h
    obtain⟨rfl,rfl⟩:=h
    exact⟨tR h1,tA h2⟩
  · cases h
def lkH (n:Nat) (H:Hy):Hy→Option Hy
 | []=>some []
 |(k, .row z m l ty)::r=>match Nat.blt k n,lkH n H r with
  |true,some q=>match j3 H k with|some e=>some ((k,e)::q)|none=>none
  |false,some q=>some ((k, .row z 0 [] ty)::q)
  |_,none=>none
 |(k, .blk _ _)::r=>match j3 H k,lkH n H r with
  |some e,some q=>some ((k,e)::q)
  |_,_=>none
def bkH (n:Nat):Hy→Hy
 | []=> []
 |(k, .blk cs ty)::r=>(k, .blk (a2N n cs) ty)::bkH n r
 |(k,e)::r=>(k,e)::bkH n r
theorem hA {n:Nat} {H:Hy}:∀ {r:Hy},lkH n H r=some (bkH n r)→b1y n H r
 | [],_=>trivial
 |(k, .row z m l ty)::r,h=>by
  simp only [lkH,bkH]at h
  cases hq:lkH n H r with
  |none=>rw [hq]at h;split at h<;>simp_all
  |some q=>
   rw [hq]at h
   cases hb:Nat.blt k n with
   |true=>
    rw [hb]at h
    cases hf:j3 H k with
    |none=>rw [hf]at h;cases h
    |some e=>
     rw [hf]at h
     simp only [Option.some.injEq,List.cons.injEq,Prod.mk.injEq,true_and]at h
     obtain⟨rfl,rfl⟩:=h
     exact⟨by simp only [b5y,hb];exact⟨m,l,hf,rfl,rfl⟩,hA hq⟩
   |false=>
    rw [hb]at h
    simp only [Option.some.injEq,List.cons.injEq,Prod.mk.injEq,true_and,E.row.injEq,and_true]at h
    obtain⟨⟨rfl,rfl⟩,rfl⟩:=h
    exact⟨by unfold b5y;rw [hb];exact⟨rfl,rfl⟩,hA hq⟩
 |(k, .blk cs ty)::r,h=>by
  simp only [lkH,bkH]at h
  split at h
  · rename_i e q h1 h2
    simp only [Option.some.injEq,List.cons.injEq,Prod.mk.injEq,true_and]at h
    obtain⟨rfl,rfl⟩:=h
    exact⟨⟨_,h1,b0A.refl _⟩,hA h2⟩
  · cases h
theorem sb {st st':Sy} (n:Nat) (h1:b0a n st'=true:=by exact rfl) (h2:lkL st.T st'.T=some (bkL n st'.T):=by exact rfl) (h3:b1y n st.H st'.H:=by first|exact hA rfl|repeat' (first|exact hR rfl|exact hW rfl|exact⟨rfl,rfl⟩|exact trivial|refine⟨?_, ?_⟩)):Q0 st st':= .of n h1 (tA h2) h3
theorem er {α β:Type} {c:α→List D} {z:Nat} {l:List α} {i:Int} {k:α→Option β} {r:β} {P:List D→Prop} (h:Option.bind (idx l i) k=some r) (hk:∀x,k x=some r→P (c x)) (hc:∀x,(c x).length=z:=by exact fun _=>rfl):∃cs,(el (l.flatMap c) z i.toNat=cs∧i.toNat<l.length)∧P cs:=by
 obtain⟨x,hx,hm⟩:=b9 h
 exact⟨_,a1M hc hx,hk x hm⟩
theorem ei {α β:Type} {c:α→List D} {z:Nat} {l:List α} {i:Int} {k:α→Option β} {r:β} {P:List D→Prop} (h:Option.bind (idx l i) k=some r) (hk:∀x,k x=some r→P (c x)) (hc:∀x,(c x).length=z:=by exact fun _=>rfl):∃cs,(el (l.flatMap c) z i.toNat=cs∧0≤i∧i<l.length)∧P cs:=by
 obtain⟨x,hx,hm⟩:=b9 h
 exact⟨_,c5L hc hx,hk x hm⟩
theorem eb {α β:Type} {l:List α} {i:Int} {k:α→Option β} {r:β} {P:Prop} (h:Option.bind (idx l i) k=some r) (hk:∀x,k x=some r→P):(0≤i∧i<l.length)∧P:=by
 obtain⟨x,hx,hm⟩:=b9 h
 exact⟨c3p hx,hk x hm⟩
end Go.Sx
namespace Go.Sx
open Go Go.RowKit
theorem b4L {S:List D}:∀ {n:Nat} {m r:List D},takeD n m=some r→takeD n (m++S)=some r
 |0,_,_,h=>h
 |n+1, [],_,h=>by simp [takeD]at h
 |n+1,x::m,r,h=>by
  cases x<;>simp only [takeD,List.cons_append]at h⊢<;>first|exact h|(cases ht:takeD n m with
   |none=>rw [ht]at h;cases h
   |some q=>rw [ht]at h;rw [b4L ht];exact h)
theorem b4z {S:List D} {n:Nat} {r:List D}:∀ {off:Nat} {m:List D},takeD n (dropD off m)=some r→takeD n (dropD off (m++S))=some r
 |0,_,h=>b4L h
 |off+1, [],h=>by
  cases n with
  |zero=>exact h
  |succ n=>simp [dropD,takeD]at h
 |off+1,_::m,h=>b4z (off:=off) (m:=m) h
theorem b4V {off:Nat} {m:List D}:∀(P:List D),dropD (P.length+off) (P++m)=dropD off m
 | []=>by rw [show([]:List D).length+off=off by simp];rfl
 |x::P=>by rw [show(x::P).length+off=(P.length+off)+1 by simp;omega];exact b4V P
theorem b3C {S:List D}:∀ {off:Nat} {l m r:List D},over off l m=some r→over off l (m++S)=some (r++S)
 |0, [],_,_,h=>by simp only [over,Option.some.injEq]at h⊢;rw [h]
 |0,x::l, [],_,h=>by simp [over]at h
 |0,x::l,y::m,r,h=>by
  simp only [over,List.cons_append]at h⊢
  cases ht:over 0 l m with
  |none=>rw [ht]at h;cases h
  |some q=>rw [ht]at h;cases h;rw [b3C ht];rfl
 |off+1,l, [],_,h=>by simp [over]at h
 |off+1,l,y::m,r,h=>by
  simp only [over,List.cons_append]at h⊢
  cases ht:over off l m with
  |none=>rw [ht]at h;cases h
  |some q=>rw [ht]at h;cases h;rw [b3C ht];rfl
theorem b8d {off:Nat} {l m r:List D} (h:over off l m=some r):∀(P:List D),over (P.length+off) l (P++m)=some (P++r)
 | []=>by rw [show([]:List D).length+off=off by simp];exact h
 |x::P=>by
  rw [show(x::P).length+off=(P.length+off)+1 by simp;omega]
  simp only [over,List.cons_append,b8d h P]
theorem a9s {α:Type} {c:α→List D} {z:Nat} (hc:∀x,(c x).length=z):∀(l:List α),(l.flatMap c).length=l.length*z
 | []=>by simp
 |x::l=>by simp only [List.flatMap_cons,List.length_append,List.length_cons,hc,a9s hc l,Nat.add_mul];omega
theorem b4B {α:Type} {xs:List α} {i:Int} {e:α} (h:idx xs i=some e):∃A B,xs=A++e::B∧A.length=i.toNat∧∀y,xs.set i.toNat y=A++y::B:=by
 obtain⟨h1,h2⟩:=a7y h
 obtain⟨h3,h4⟩:=List.getElem?_eq_some_iff.1 h2
 refine⟨xs.take i.toNat,xs.drop (i.toNat+1), ?_,by simp;omega,fun y=> ?_⟩
 · rw [←h4];simp
 · rw [List.set_eq_take_append_cons_drop,if_pos h3]
theorem ldx {α:Type} {c:α→List D} {z n:Nat} {xs:List α} {i:Int} {e:α} {pre post cs r:List D} {b off o:Nat} (hz:∀x,(c x).length=z) (hx:idx xs i=some e) (hb:pre.length=b) (hcs:cs=pre++(xs.flatMap c++post)) (ho:o=b+i.toNat*z+off) (hr:takeD n (dropD off (c e))=some r):takeD n (dropD o cs)=some r:=by
 obtain⟨A,B,rfl,hA,_⟩:=b4B hx
 have hl:(pre++A.flatMap c).length=b+i.toNat*z:=by rw [List.length_append,a9s hz,hA,hb]
 rw [hcs,ho,←hl,show pre++((A++e::B).flatMap c++post)=(pre++A.flatMap c)++(c e++(B.flatMap c++post)) by simp,b4V]
 exact b4z hr
theorem stx {α:Type} {c:α→List D} {z:Nat} {xs ys:List α} {i:Int} {e y:α} {pre post cs cs' l:List D} {b off o:Nat} (hz:∀x,(c x).length=z) (hx:idx xs i=some e) (hb:pre.length=b) (hcs:cs=pre++(xs.flatMap c++post)) (ho:o=b+i.toNat*z+off) (hl:over off l (c e)=some (c y)) (hcs':cs'=pre++(ys.flatMap c++post)) (hy:xs.set i.toNat y=ys):over o l cs=some cs':=by
 obtain⟨A,B,rfl,hA,hs⟩:=b4B hx
 have hn:(pre++A.flatMap c).length=b+i.toNat*z:=by rw [List.length_append,a9s hz,hA,hb]
 rw [hs]at hy
 subst hy
 rw [hcs,hcs',ho,←hn,show pre++((A++e::B).flatMap c++post)=(pre++A.flatMap c)++(c e++(B.flatMap c++post)) by simp,show pre++((A++y::B).flatMap c++post)=(pre++A.flatMap c)++(c y++(B.flatMap c++post)) by simp]
 exact b8d (b3C hl) _
def c2A {α:Type} (i:Int) (y:α):Nat→List α→List α
 |_, []=> []
 |k,x::l=>(if(i==(k:Int))=true then y else x)::c2A i y (k+1) l
theorem c0i {α:Type} {i:Int} {y:α}:∀(l:List α) (k:Nat),0≤i→c2A i y k l=if i<k then l else l.set (i.toNat-k) y
 | [],k,_=>by simp [c2A]
 |x::l,k,h=>by
  simp only [c2A]
  rw [c0i l (k+1) h]
  by_cases h1:i<(k:Int)
  · rw [if_neg (by rw [beq_iff_eq];omega),if_pos (by omega),if_pos h1]
  · by_cases h2:i=(k:Int)
    · rw [if_pos (by rw [beq_iff_eq];exact h2),if_pos (by omega),if_neg h1,show i.toNat-k=0 by omega];rfl
    · rw [if_neg (by rw [beq_iff_eq];exact h2),if_neg (by omega),if_neg h1,show i.toNat-k=(i.toNat-(k+1))+1 by omega];rfl
theorem b7w {α:Type} {xs:List α} {i:Int} {e y:α} (hx:idx xs i=some e):xs.set i.toNat y=c2A i y 0 xs:=by
 have h:=(c3p hx).1
 rw [c0i xs 0 h,if_neg (by omega)];rfl
end Go.Sx
