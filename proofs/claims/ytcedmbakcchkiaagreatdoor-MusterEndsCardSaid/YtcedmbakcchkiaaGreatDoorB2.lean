/- The walk over pure data: its definitions, that it is sound, and what may be read at a type. -/
import Derived.Test.YtcedmbakcchkiaaGreatDoorB1
import Derived.Laws.CopyRow
import Derived.RangeFuncNested
import Derived.RangeFuncBound
import Derived.RangeFuncCalls
import Derived.RangeFuncLeaves
import Derived.TacticsIn
import Derived.OrdersIn
import Derived.Sort.LoopGhostIn
import Derived.Lib.AppendZerosOnto
import Derived.Laws.Externs
import Derived.StillTail
set_option linter.unusedVariables false
set_option linter.unusedSimpArgs false
namespace Go.Sx
open Go Go.RowKit
section
variable {A : Nat → Prop} {X : Cy} {w0 : World} {bor : List Nat} {st : St} {sy : Sy} {a : Act} {w : World} {Q : Exit → Act → World → Prop}
theorem b4m {n:Nat} {H:Hp}:∀(Hd:Hy),(fwH n H Hd).map (·.1)=a0U Hd
 | []=>rfl
 |(k, .blk ds ty)::r=>by
  simp only [fwH,a0U,List.map_cons,b4m r]
  congr 1
  split<;>rfl
 |(k, .row z m l ty)::r=>by
  simp only [fwH,a0U,List.map_cons,b4m r]
  congr 1
  split<;>rfl
theorem a5y {k:Nat}:∀ {H:Hy},R8 k (a0U H)=true→∃e,o4 H k=some e
 | [],h=>by simp [a0U,R8]at h
 |(j,e)::r,h=>by
  simp only [a0U,R8]at h
  simp only [o4]
  cases hb:Nat.beq j k with
  |true=>exact⟨e,rfl⟩
  |false=>
   rw [hb]at h
   exact a5y h
theorem b0c {n:Nat} {H:Hp} {k b:Nat} {cs:List SV} {ty ty0:TypeId} {ds:List D} (hf:i6 H k=some (.blk b cs ty)):∀ {Hd:Hy},o4 Hd k=some (.blk ds ty0)→i6 (fwH n H Hd) k=some (.blk b (fwB ds cs) ty)
 | [],h=>by simp [o4]at h
 |(j,e)::r,h=>by
  simp only [o4]at h
  cases hb:Nat.beq j k with
  |true=>
   rw [hb]at h;cases h
   have:=B9 hb;subst this
   simp only [fwH,hf,i6,hb]
  |false=>
   rw [hb]at h
   have ih:=b0c hf (n:=n) h
   cases e with
   |blk d t=>
    simp only [fwH]
    split<;>simp only [i6,hb]<;>exact ih
   |row z m l t=>
    simp only [fwH]
    split<;>simp only [i6,hb]<;>exact ih
theorem b0C {n:Nat} {H:Hp} {k z m z' m':Nat} {l:List D} {v:Value} {xs:List Value} {ty ty':TypeId} (hb0:Nat.blt k n=true) (hf:i6 H k=some (.row v m' xs z' ty')):∀ {Hd:Hy},o4 Hd k=some (.row z m l ty)→i6 (fwH n H Hd) k=some (.row v m' xs z' ty')
 | [],h=>by simp [o4]at h
 |(j,e)::r,h=>by
  simp only [o4]at h
  cases hb:Nat.beq j k with
  |true=>
   rw [hb]at h;cases h
   have:=B9 hb;subst this
   simp only [fwH,hf,hb0,i6,hb]
  |false=>
   rw [hb]at h
   have ih:=b0C hb0 hf (n:=n) h
   cases e with
   |blk d t=>
    simp only [fwH]
    split<;>simp only [i6,hb]<;>exact ih
   |row z m l t=>
    simp only [fwH]
    split<;>simp only [i6,hb]<;>exact ih
theorem b0n {n:Nat} {H:Hp} {k z m:Nat} {l:List D} {ty:TypeId} (hb0:Nat.blt k n=false):∀ {Hd:Hy},o4 Hd k=some (.row z m l ty)→i6 (fwH n H Hd) k=some (.row (.slice none 0 0) 0 [] z ty)
 | [],h=>by simp [o4]at h
 |(j,e)::r,h=>by
  simp only [o4]at h
  cases hb:Nat.beq j k with
  |true=>
   rw [hb]at h;cases h
   have:=B9 hb;subst this
   simp only [fwH,hb0,i6,hb]
  |false=>
   rw [hb]at h
   have ih:=b0n hb0 (n:=n) (H:=H) h
   cases e with
   |blk d t=>
    simp only [fwH]
    split<;>simp only [i6,hb]<;>exact ih
   |row z m l t=>
    simp only [fwH]
    split<;>simp only [i6,hb]<;>exact ih
theorem b2s {n:Nat} {H:Hy} {k:Nat} {e:E}:∀ {Hd:Hy},b3g n H Hd→o4 Hd k=some e→b7Q n H k e
 | [],_,h=>by simp [o4]at h
 |(j,e')::r,hs,h=>by
  simp only [b3g]at hs
  simp only [o4]at h
  cases hb:Nat.beq j k with
  |true=>rw [hb]at h;cases h;have:=B9 hb;subst this;exact hs.1
  |false=>rw [hb]at h;exact b2s hs.2 h
theorem a3W {n:Nat} {ks:List Nat} {k:Nat} {ds:List D} {ty:TypeId}:∀ {Hd:Hy},b9V n ks Hd=true→o4 Hd k=some (.blk ds ty)→k<n∧b4M n ks ds=true
 | [],_,h=>by simp [o4]at h
 |(j, .blk d t)::r,hs,h=>by
  simp only [b9V]at hs
  split at hs
  · rename_i h1 h2
    simp only [o4]at h
    cases hb:Nat.beq j k with
    |true=>rw [hb]at h;cases h;have:=B9 hb;subst this;exact⟨a2t.1 h1,h2⟩
    |false=>rw [hb]at h;exact a3W hs h
  · cases hs
 |(j, .row z m l t)::r,hs,h=>by
  simp only [b9V]at hs
  simp only [o4]at h
  cases hb:Nat.beq j k with
  |true=>rw [hb]at h;cases h
  |false=>rw [hb]at h;exact a3W hs h
theorem b3b {l:List Nat} (h:ndB l=true):l.Nodup:=c4j h
theorem b6p {T:List (Nat×SV)} {d:Nat}:∀ {Td:List (Nat×D)} {x:D} {s:SV},w8 Td d=some x→C6 T d=some s→C6 (fwT T Td) d=some (fwS x s)
 | [],_,_,h,_=>by simp [w8]at h
 |(i,y)::r,x,s,h,hl=>by
  simp only [w8]at h
  cases hb:Nat.beq i d with
  |true=>
   rw [hb]at h;cases h
   have:=B9 hb;subst this
   simp only [fwT,hl,C6,hb]
  |false=>
   rw [hb]at h
   simp only [fwT]
   split<;>simp only [C6,hb]<;>exact b6p h hl
theorem b3p {n:Nat} {ks:List Nat}:∀ {Td:List (Nat×D)},c2U n ks Td=true→∀p,p∈Td→inK n ks p.2=true
 | [],_,_,h=>by cases h
 |(i,y)::r,hs,p,h=>by
  simp only [c2U]at hs
  split at hs
  · rename_i h1
    rcases List.mem_cons.1 h with rfl|h
    · exact h1
    · exact b3p hs p h
  · cases hs
theorem b4u {n:Nat}:∀ {H:Hy},ltY n H=true→∀k,k∈a0U H→k<n
 | [],_,_,h=>by cases h
 |(j,e)::r,hs,k,h=>by
  simp only [ltY]at hs
  split at hs
  · rename_i hb
    simp only [a0U]at h
    rcases List.mem_cons.1 h with rfl|h
    · exact a2t.1 hb
    · exact b4u hs k h
  · cases hs
theorem b9H {H:Hy} {k:Nat} {e:E} (h:o4 H k=some e):(k,e)∈H:=by
 induction H with
 |nil=>simp [o4]at h
 |cons x H ih=>
  obtain⟨j,e'⟩:=x
  simp only [o4]at h
  cases hb:Nat.beq j k with
  |true=>rw [hb]at h;cases h;rw [B9 hb];exact List.mem_cons_self
  |false=>rw [hb]at h;exact List.mem_cons_of_mem _ (ih h)
theorem b3z {H:Hy} {k:Nat} {e:E} (h:(k,e)∈H):k∈a0U H:=by
 induction H with
 |nil=>cases h
 |cons x H ih=>
  obtain⟨j,e'⟩:=x
  simp only [a0U]
  rcases List.mem_cons.1 h with h|h
  · cases h;exact List.mem_cons_self
  · exact List.mem_cons_of_mem _ (ih h)
theorem a8F {H:Hy} (hn:(a0U H).Nodup) {k:Nat} {e:E} (h:(k,e)∈H):o4 H k=some e:=by
 induction H with
 |nil=>cases h
 |cons x H ih=>
  obtain⟨j,e'⟩:=x
  simp only [a0U,List.nodup_cons]at hn
  simp only [o4]
  rcases List.mem_cons.1 h with h|h
  · cases h;simp
  · have hk:=b3z h
    have:j≠k:=fun e=>hn.1 (e▸hk)
    rw [a0c this];exact ih hn.2 h
theorem b9i {T:List (Nat×D)} {d:Nat} {x:D} (hx:w8 T d=some x):(d,x)∈T:=by
 induction T with
 |nil=>simp [w8]at hx
 |cons p T ih=>
  obtain⟨i,y⟩:=p
  simp only [w8]at hx
  cases hbq:Nat.beq i d with
  |true=>rw [hbq]at hx;cases hx;have:=B9 hbq;subst this;exact List.mem_cons_self
  |false=>rw [hbq]at hx;exact List.mem_cons_of_mem _ (ih hx)
theorem c4h.rel {sy':Sy} (h:c4h sy sy') (hs:Sim A st sy) (hr:Rel (cx X w0 bor) st a w):∃st',Sim A st' sy'∧Rel (cx X w0 bor) st' a w∧∀b,b∈bs st'.H→b∈bs st.H:=by
 obtain⟨n,hshape,hT,hH⟩:=h.ex
 have hs0:=hs.now hr.cls
 have hr0:=hr.now
 obtain⟨T',H',nk'⟩:=sy'
 simp only at hT hH
 unfold b1g at hshape
 split at hshape
 · rename_i h1 h2 h3 h4
   simp only at h1 h2 h3 h4
   have hkn:=b3b h1
   let Hn:Hp:=fwH n st.H H'
   let Tn:=fwT st.T T'
   let st':St:=⟨Tn,Hn,nk',w,w.heap.size, []⟩
   --each entry of the shape
   have entO:∀k e,o4 H' k=some e→(∀ds ty,e= .blk ds ty→∃b cs,i6 st.H k=some (.blk b cs ty)∧i6 Hn k=some (.blk b (fwB ds cs) ty)∧a9W (okS A (now st w)) w (D7 (now st w)) (a2J n ds) cs)∧
    (∀z m l ty,e= .row z m l ty→(Nat.blt k n=true∧∃v xs,i6 st.H k=some (.row v m xs z ty)∧i6 Hn k=some (.row v m xs z ty)∧j3 (okS A (now st w)) w l xs∧D3 l=true∧l.length=m*z)∨
     (Nat.blt k n=false∧m=0∧l= []∧i6 Hn k=some (.row (.slice none 0 0) 0 [] z ty))):=by
    intro k e he
    have hsub:=b2s hH he
    refine⟨fun ds ty heq=> ?_,fun z m l ty heq=> ?_⟩
    · subst heq
      simp only [b7Q]at hsub
      obtain⟨cs0,hsub,hle⟩:=hsub
      obtain⟨e',h5,h6⟩:=hs0.H k _ hsub
      cases e' with
      |row=>exact h6.elim
      |blk b cs ty'=>
       obtain⟨rfl,h6⟩:=h6
       exact⟨b,cs,h5,b0c h5 he,b4L _ _ _ hle h6⟩
    · subst heq
      simp only [b7Q]at hsub
      cases hb:Nat.blt k n with
      |true=>
       rw [hb]at hsub
       obtain⟨m0,l0,hsub,rfl,rfl⟩:=hsub
       obtain⟨e',h5,h6⟩:=hs0.H k _ hsub
       cases e' with
       |blk=>exact h6.elim
       |row v m' xs z' ty'=>
        obtain⟨rfl,rfl,rfl,h7,h8,h9⟩:=h6
        exact .inl ⟨rfl,v,xs,h5,b0C hb h5 he,h7,h8,h9⟩
      |false=>
       rw [hb]at hsub
       obtain⟨rfl,rfl⟩:=hsub
       exact .inr ⟨rfl,rfl,rfl,b0n hb he⟩
   have hnkk:∀k,R8 k (a0U H')=true→k<nk':=fun k hk=>by
    obtain⟨e,he⟩:=a5y hk
    exact b4u h2 k (b3z (b9H he))
   have hz:b8B (okS A (now st w)) w n (a0U H') (D7 (now st w)) (D7 st') st.H Hn:=by
    refine⟨fun q j hj hlt hq=>⟨hnkk j hj,fun hq2=> ?_⟩,fun j hj hlt=> ?_,fun j hj hlt=> ?_⟩
    · obtain⟨e,he⟩:=a5y hj
      obtain⟨v,m,xs,z,ty,hrow⟩:=hq.2 hq2
      cases e with
      |blk ds ty=>
       obtain⟨b,cs,g1,_⟩:=(entO j _ he).1 ds ty rfl
       simp only [now]at hrow
       rw [g1]at hrow;cases hrow
      |row z m l ty=>
       rcases(entO j _ he).2 z m l ty rfl with⟨_,v,xs,_,g2,_⟩|⟨g1,_⟩
       · exact⟨_,_,_,_,_,g2⟩
       · rw [a2t.2 hlt]at g1;cases g1
    · obtain⟨e,he⟩:=a5y hj
      cases e with
      |blk ds ty=>
       obtain⟨b,cs,g1,g2,_⟩:=(entO j _ he).1 ds ty rfl
       simp only [bOf,o9,g1,g2];exact⟨trivial,trivial⟩
      |row z m l ty=>
       rcases(entO j _ he).2 z m l ty rfl with⟨_,v,xs,g1,g2,_⟩|⟨g1,_⟩
       · simp only [bOf,o9,g1,g2];exact⟨trivial,trivial⟩
       · rw [a2t.2 hlt]at g1;cases g1
    · obtain⟨e,he⟩:=a5y hj
      cases e with
      |blk ds ty=>exact absurd (a3W h4 he).1 hlt
      |row z m l ty=>
       rcases(entO j _ he).2 z m l ty rfl with⟨g1,_⟩|⟨_,_,_,g2⟩
       · exact absurd (a2t.1 g1) hlt
       · exact⟨⟨hnkk j hj,fun _=>⟨_,_,_,_,_,g2⟩⟩,by simp [o9,g2]⟩
   --the entries' source
   have hsrc:∀Hd:Hy,(∀k e,(k,e)∈Hd→(k,e)∈H')→a6B st.H Hn (a5Y n Hd) (fwH n st.H Hd):=by
    intro Hd
    induction Hd with
    |nil=>intro _;trivial
    |cons x Hd ih=>
     intro hsubm
     obtain⟨k,e⟩:=x
     have hmem:=hsubm k e List.mem_cons_self
     have he:=a8F hkn hmem
     have ih:=ih fun k e h=>hsubm k e (List.mem_cons_of_mem _ h)
     cases e with
     |blk ds ty=>
      obtain⟨b,cs,g1,g2,g3⟩:=(entO k _ he).1 ds ty rfl
      obtain⟨q1,q2⟩:=a3W h4 he
      simp only [a5Y,fwH,g1,a6B]
      refine⟨?_,ih⟩
      simp only [b6g]
      exact⟨trivial,(a9g hz ds cs g3 q2).2,trivial⟩
     |row z m l ty=>
      rcases(entO k _ he).2 z m l ty rfl with⟨hb,v,xs,g1,g2,_⟩|⟨hb,rfl,rfl,g2⟩
      · simp only [a5Y,fwH,hb,g1,a6B]
        exact⟨by simp only [b6g];exact⟨trivial,trivial,trivial,trivial,trivial⟩,ih⟩
      · simp only [a5Y,fwH,hb,a6B]
        exact⟨⟨trivial,trivial,trivial⟩,ih⟩
   --the slots
   have hin:=b3p h3
   have hent:∀p,p∈T'→∃s0,C6 st.T p.1=some s0∧s0≠ .bad∧i0 (okS A (now st w)) w (D7 st') p.2 (fwS p.2 s0)∧den Hn (fwS p.2 s0)=den st.H s0:=by
    have hall:∀Td:List (Nat×D),b1v n sy.T Td→∀p,p∈Td→∃y,w8 sy.T p.1=some y∧leD y (back n p.2):=by
     intro Td
     induction Td with
     |nil=>intro _ p hp;cases hp
     |cons q Td ih=>
      intro hq p hp
      simp only [b1v]at hq
      rcases List.mem_cons.1 hp with rfl|hp
      · exact hq.1
      · exact ih hq.2 p hp
    intro p hp
    have hi:=hin p hp
    have hbad:p.2≠ .bad:=fun e=>by rw [e]at hi;simp [inK]at hi
    have hbk:back n p.2≠ .bad:=by
     cases hx:p.2<;>simp only [back]<;>first|(intro e;cases e)|skip
     · split<;>(intro e;cases e)
     · exact absurd hx hbad
    obtain⟨y,hy1,hy2⟩:=hall T' hT p hp
    rcases hs0.T p.1 y hy1 with e|⟨s,g1,g2⟩
    · subst e;simp only [leD]at hy2;exact absurd hy2.symm hbk
    · have g2:=b7d _ _ _ hy2 g2
      obtain⟨g3,g4⟩:=b6X hz p.2 s g2 hi
      exact⟨s,g1,g2.ne hbk,g3,g4⟩
   have hsubT:∀Td:List (Nat×D),(∀p,p∈Td→p∈T')→c0c st.H Hn st.T (fwT st.T Td)∧∀j,nk'≤j→B0 j (fwT st.T Td)=true:=by
    intro Td
    induction Td with
    |nil=>intro _;exact⟨trivial,fun _ _=>rfl⟩
    |cons q Td ih=>
     intro hm
     obtain⟨s0,g1,g2,g3,g4⟩:=hent q (hm q List.mem_cons_self)
     obtain⟨i1,i2⟩:=ih fun p hp=>hm p (List.mem_cons_of_mem _ hp)
     obtain⟨d,x⟩:=q
     simp only at g1 g2 g3 g4
     simp only [fwT,g1]
     refine⟨⟨?_,i1⟩,fun j hj=> ?_⟩
     · rw [g1]
       cases s0<;>first|exact g4.symm|exact absurd rfl g2
     · have hm0:ment j (fwS x s0)=false:=i0.ment (fun p hp=>by have:=hp.1;simp only [st']at this;omega) _ _ g3
       simp only [B0,hm0]
       exact i2 j hj
   obtain⟨k1,k2⟩:=hsubT T' fun _ h=>h
   have hkeys:(Hn.map (·.1))=a0U H':=b4m H'
   have hsub:Sub (now st w) st':=by
    refine⟨a5Y n H',k1,hsrc H' (fun _ _ h=>h), ?_,by simp only [st'];rw [hkeys];exact hkn,fun k hk=> ?_⟩
    · have:∀Hd:Hy,(a5Y n Hd).filterMap id=(a0U Hd).filter (fun k=>R8 k ((a5Y n Hd).filterMap id))∨True:=fun _=> .inr trivial
      have hsubl:∀Hd:Hy,((a5Y n Hd).filterMap id).Sublist (a0U Hd):=by
       intro Hd
       induction Hd with
       |nil=>exact List.Sublist.slnil
       |cons x Hd ih=>
        obtain⟨k,e⟩:=x
        cases e with
        |blk ds ty=>simp only [a5Y,a0U,List.filterMap_cons,id];exact List.Sublist.cons_cons _ ih
        |row z m l ty=>
         simp only [a5Y,a0U]
         cases hb:Nat.blt k n with
         |true=>simp only [List.filterMap_cons,id];exact List.Sublist.cons_cons _ ih
         |false=>simp only [List.filterMap_cons,id];exact List.Sublist.cons _ ih
      exact(hsubl H').nodup hkn
    · simp only [st']at hk
      rw [hkeys]at hk
      exact b4u h2 k hk
   obtain⟨hrel,hbs⟩:=hsub.rel hr0 ⟨rfl,rfl,rfl⟩
   have hok:∀b,okS A (now st w) b→okS A st' b∧w.heap[b]?=w.heap[b]?:=fun b hb=>⟨⟨⟨.inl hb.2.1,hb.1.2⟩,hb.2.1,fun c hc=>hb.2.2 c (hbs c hc)⟩,rfl⟩
   refine⟨st',⟨fun d x hx=> ?_,fun k e he=> ?_,rfl,k2,fun j hj=> ?_⟩,hrel,hbs⟩
   · right
     have hp:(d,x)∈T':=b9i hx
     obtain⟨s0,g1,g2,g3,g4⟩:=hent _ hp
     exact⟨fwS x s0,b6p hx g1,i0.mono hok (fun _ _ h=>h) _ _ g3⟩
   · cases e with
     |blk ds ty=>
      obtain⟨b,cs,g1,g2,g3⟩:=(entO k _ he).1 ds ty rfl
      obtain⟨q1,q2⟩:=a3W h4 he
      exact⟨_,g2,by exact⟨rfl,d8.mono hok (fun _ _ h=>h) _ _ (a9g hz ds cs g3 q2).1⟩⟩
     |row z m l ty=>
      rcases(entO k _ he).2 z m l ty rfl with⟨hb,v,xs,g1,g2,g3,g4,g5⟩|⟨hb,rfl,rfl,g2⟩
      · exact⟨_,g2,by exact⟨rfl,rfl,rfl,j3.mono hok _ _ g3,g4,g5⟩⟩
      · exact⟨_,g2,by exact⟨rfl,rfl,rfl,trivial,rfl,by simp⟩⟩
   · have hfr:∀Hd:Hy,(∀k e,(k,e)∈Hd→(k,e)∈H')→I2 j (fwH n st.H Hd)=true:=by
      intro Hd
      induction Hd with
      |nil=>intro _;rfl
      |cons x Hd ih=>
       intro hsubm
       obtain⟨k,e⟩:=x
       have he:=a8F hkn (hsubm k e List.mem_cons_self)
       have ih:=ih fun k e h=>hsubm k e (List.mem_cons_of_mem _ h)
       cases e with
       |blk ds ty=>
        obtain⟨b,cs,g1,g2,g3⟩:=(entO k _ he).1 ds ty rfl
        obtain⟨q1,q2⟩:=a3W h4 he
        simp only [fwH,g1]
        refine a0k ?_ ih
        simp only [a5K,Bool.not_eq_true']
        exact(a9g hz ds cs g3 q2).1.ment fun p hp=>by have:=hp.1;simp only [st']at this hj;omega
       |row z m l ty=>
        simp only [fwH]
        split<;>exact a0k rfl ih
     exact hfr H' fun _ _ h=>h
 · cases hshape
theorem b7P {sy1:Sy} {ks:List Nat} (hA:∀b,(w0.heap.size≤b∨b∈bor)→A b) (hf:a5l ks sy []=some (sy1, [])) (hs:Sim A st sy) (hr:Rel (cx X w0 bor) st a w):∃st',Sim A st' sy1∧Rel (cx X w0 bor) st' a w∧∀b,b∈bs st'.H→b∈bs st.H:=by
 have hr0:=hr.now
 have hs0:=hs.now hr.cls
 obtain⟨st1,_,c1,a1,s1,b1,o1,_,_⟩:=a5r (Xx:=cx X w0 bor) (r:= []) hA _ hr0.cls ⟨rfl,rfl,rfl⟩ hs0 (by simp only [d8]) hf
 refine⟨st1,s1, ?_,fun b hb=>b1.bs b hb⟩
 refine⟨hr.size,fun d s hd=> ?_,hr.dfs, ?_, ?_, ?_⟩
 · rcases o1 d s hd with e|⟨s0,h1,h2,h3⟩
   · exact .inl e
   · rcases hr0.T d s0 h1 with e|e
     · exact absurd e h2
     · right;rw [e,h3]
 · rw [a1.1];exact c1
 · rw [a1.2.1];exact Nat.le_refl _
 · rw [a1.2.2];simp
theorem i4.rel {sy':Sy} (hA:∀b,(w0.heap.size≤b∨b∈bor)→A b) (h:i4 sy sy') (hs:Sim A st sy) (hr:Rel (cx X w0 bor) st a w):∃st',Sim A st' sy'∧Rel (cx X w0 bor) st' a w∧∀b,b∈bs st'.H→b∈bs st.H:=by
 obtain⟨ks,sy1,hf,hk⟩:=h.ex
 obtain⟨st1,s1,hr1,b1⟩:=b7P hA hf hs hr
 obtain⟨st2,h1,h2,h3⟩:=hk.rel s1 hr1
 exact⟨st2,h1,h2,fun b hb=>b1 b (h3 b hb)⟩
end
end Go.Sx
namespace Go.Sx
open Go Go.RowKit
section
variable {A : Nat → Prop} {X : Cy} {w0 : World} {bor : List Nat} {st : St} {sy : Sy} {a : Act} {w : World}
theorem a4m (hs:Sim A st sy):∀ {rs:List ResultVar} {l:List D},a1x X sy rs=some l→∃l',a7L (cx X w0 bor) st rs=some l'∧d8 (okS A st) st.w (D7 st) l l'
 | [],l,h=>by simp only [a1x]at h;cases h;exact⟨[],rfl,trivial⟩
 | .tmp t::rs,l,h=>by
  simp only [a1x]at h
  split at h
  · cases h
  · rename_i x l1 hb hx hl
    cases h
    obtain⟨l',h1,h2⟩:=a4m hs hl
    obtain⟨hlt,hx⟩:=a3q hx
    rcases hs.T t x hx with e|⟨s,h3,h4⟩
    · exact absurd e hb
    · have hsb:=h4.ne hb
      refine⟨s::l', ?_,h4,h2⟩
      simp only [a7L,a6x hlt,h3,h1]
      try (cases s<;>first|rfl|exact absurd rfl hsb)
  · cases h
 | .cell b t::rs,l,h=>by
  simp only [a1x]at h
  split at h
  · rename_i i k o l1 hi hx hl
    obtain⟨l',h1,h2⟩:=a4m hs hl
    split at h
    · rename_i cs ty hf
      obtain⟨e',hf',he⟩:=hs.H _ _ hf
      cases e' with
      |row=>exact he.elim
      |blk b' cs' ty'=>
       split at h
       · rename_i c hc
         split at h
         · rename_i x hm
           cases h
           obtain⟨r,h3,h4⟩:=(he.2.dropD o).takeD hc
           obtain⟨s,h5,h6⟩:=b8F h4 hm
           obtain⟨hlt,hx⟩:=a3q hx
           rcases hs.T b _ hx with e|⟨s0,h7,h8⟩
           · cases e
           · simp only [i0]at h8
             obtain⟨rfl,_⟩:=h8
             exact⟨s::l',by simp only [a7L,cx,hi,a6x hlt,h7];rw [show a7L ⟨X.P,X.tt,w0,bor,X.nt,X.pl,X.dfs,X.sv⟩ st rs=some l' from h1];simp only [hf',h3,h5],h6,h2⟩
         · cases h
       · cases h
    · cases h
  · cases h
theorem a2P {n:Nat} {l:List D} {d:Nat} {s:D} (h:w8 (a2H n l) d=some s):n≤d∧l[d-n]?=some s:=by
 induction l generalizing n with
 |nil=>simp [a2H,w8]at h
 |cons x l ih=>
  simp only [a2H,w8]at h
  cases hb:Nat.beq n d with
  |true=>rw [hb]at h;cases h;have:=B9 hb;subst this;simp
  |false=>
   rw [hb]at h
   obtain⟨h1,h2⟩:=ih h
   have hne:=a2Y hb
   have:d-n=(d-(n+1))+1:=by omega
   rw [this]
   exact⟨by omega,by simpa using h2⟩
theorem a5o {n d:Nat} {l:List SV} {s:SV} (hd:n≤d) (h:l[d-n]?=some s):C6 (a3Z n l) d=some s:=by
 induction l generalizing n with
 |nil=>simp at h
 |cons x l ih=>
  simp only [a3Z,C6]
  cases hb:Nat.beq n d with
  |true=>have:=B9 hb;subst this;simpa using h
  |false=>
   have hne:=a2Y hb
   have:d-n=(d-(n+1))+1:=by omega
   rw [this]at h
   exact ih (by omega) (by simpa using h)
theorem a4l {j n:Nat} {l:List Value}:B0 j (a3Z n (vs l))=true:=by
 induction l generalizing n with
 |nil=>rfl
 |cons x l ih=>simp only [vs,a3Z,B0,ment];exact ih
theorem a4P {l r:List (Nat×SV)} {d:Nat}:C6 (l++r) d=match C6 l d with|some s=>some s|none=>C6 r d:=by
 induction l with
 |nil=>rfl
 |cons x l ih=>
  obtain⟨e,s⟩:=x
  simp only [List.cons_append,C6]
  cases Nat.beq e d with
  |true=>rfl
  |false=>exact ih
theorem b4z {l r:List (Nat×D)} {d:Nat}:w8 (l++r) d=match w8 l d with|some s=>some s|none=>w8 r d:=by
 induction l with
 |nil=>rfl
 |cons x l ih=>
  obtain⟨e,s⟩:=x
  simp only [List.cons_append,w8]
  cases Nat.beq e d with
  |true=>rfl
  |false=>exact ih
theorem b0l {a b:Nat} (h:Nat.blt a b=true):a<b:=by simpa [Nat.blt_eq]using h
theorem a9d {a b:Nat} (h:Nat.blt a b=false):¬a<b:=fun hl=>by
 have:Nat.blt a b=true:=by rw [Nat.blt_eq];exact hl
 rw [h]at this;cases this
def U6 {α:Type}:List (Nat×α)→Nat→Option α
 | [],_=>none
 |(d,s)::T,k=>match Nat.beq d k with|true=>some s|false=>U6 T k
theorem a2E (T:List (Nat×SV)) (d:Nat):C6 T d=U6 T d:=by
 induction T with
 |nil=>rfl
 |cons p T ih=>obtain⟨e,s⟩:=p;simp only [C6,U6];cases Nat.beq e d;exact ih;rfl
theorem a7l (T:List (Nat×D)) (d:Nat):w8 T d=U6 T d:=by
 induction T with
 |nil=>rfl
 |cons p T ih=>obtain⟨e,s⟩:=p;simp only [w8,U6];cases Nat.beq e d;exact ih;rfl
section
variable {α : Type} {nt : Nat}
theorem b5T (hn:nt≤1000000) (T:List (Nat×α)) {e:Nat} (h:e<1000000):U6 (a0u nt T) e=none:=by
 induction T with
 |nil=>rfl
 |cons p T ih=>
  obtain⟨d,y⟩:=p
  simp only [a0u]
  split
  · rename_i hb
    have:=b0l hb
    have hne:Nat.beq (Nat.add 1000000 d) e=false:=a0c (by show 1000000+d≠e;omega)
    simp only [U6,hne,ih]
  · split
    · exact ih
    · rename_i hc
      have:=a9d hc
      have hne:Nat.beq (Nat.add d nt) e=false:=a0c (by show d+nt≠e;omega)
      simp only [U6,hne,ih]
theorem a9E (hn:nt≤1000000) (T:List (Nat×α)) {e:Nat} (h:e<nt):U6 (a0u nt T) (1000000+e)=U6 T e:=by
 induction T with
 |nil=>rfl
 |cons p T ih=>
  obtain⟨d,y⟩:=p
  simp only [a0u]
  split
  · simp only [U6]
    by_cases he:d=e
    · subst he
      have h1:Nat.beq (Nat.add 1000000 d) (1000000+d)=true:=Nat.beq_refl _
      have h2:Nat.beq d d=true:=Nat.beq_refl _
      rw [h1,h2]
    · have h1:Nat.beq (Nat.add 1000000 d) (1000000+e)=false:=a0c (by show 1000000+d≠_;omega)
      rw [h1,a0c he];exact ih
  · rename_i hb
    have hb:=a9d hb
    have hne:Nat.beq d e=false:=a0c (by omega)
    split
    · simp only [U6,hne,ih]
    · rename_i hc
      have:=a9d hc
      have h1:Nat.beq (Nat.add d nt) (1000000+e)=false:=a0c (by show d+nt≠_;omega)
      simp only [U6,hne,h1,ih]
theorem b1S (hn:nt≤1000000) (T:List (Nat×α)) {e:Nat} (h:1000000≤e):U6 (a0u nt T) (e+nt)=U6 T e:=by
 induction T with
 |nil=>rfl
 |cons p T ih=>
  obtain⟨d,y⟩:=p
  simp only [a0u]
  split
  · rename_i hb
    have:=b0l hb
    have h1:Nat.beq (Nat.add 1000000 d) (e+nt)=false:=a0c (by show 1000000+d≠_;omega)
    have hne:Nat.beq d e=false:=a0c (by omega)
    simp only [U6,hne,h1,ih]
  · split
    · rename_i hc
      have:=b0l hc
      have hne:Nat.beq d e=false:=a0c (by omega)
      simp only [U6,hne,ih]
    · simp only [U6]
      by_cases he:d=e
      · subst he
        have h1:Nat.beq (Nat.add d nt) (d+nt)=true:=Nat.beq_refl _
        have h2:Nat.beq d d=true:=Nat.beq_refl _
        rw [h1,h2]
      · have h1:Nat.beq (Nat.add d nt) (e+nt)=false:=a0c (by show d+nt≠_;omega)
        rw [h1,a0c he];exact ih
theorem a6Q (hn:nt≤1000000) (T:List (Nat×α)) {e:Nat} (h:e<nt):U6 (Q9 nt T) e=U6 T (1000000+e):=by
 induction T with
 |nil=>rfl
 |cons p T ih=>
  obtain⟨d,y⟩:=p
  simp only [Q9]
  split
  · rename_i hb
    have:=b0l hb
    have h1:Nat.beq d (1000000+e)=false:=a0c (by omega)
    simp only [U6,h1,ih]
  · rename_i hb
    have hb:=a9d hb
    split
    · rename_i hc
      have hc:d<1000000+nt:=b0l hc
      simp only [U6]
      by_cases he:d=1000000+e
      · have h1:Nat.beq (Nat.mod d 1000000) e=true:=by rw [Nat.beq_eq];show d % 1000000=e;omega
        have h2:Nat.beq d (1000000+e)=true:=by rw [Nat.beq_eq];exact he
        rw [h1,h2]
      · have h1:Nat.beq (Nat.mod d 1000000) e=false:=a0c (by show d % 1000000≠e;omega)
        rw [h1,a0c he];exact ih
    · rename_i hc
      have hc:¬d<1000000+nt:=a9d hc
      have h1:Nat.beq (Nat.sub d nt) e=false:=a0c (by show d-nt≠e;omega)
      have h2:Nat.beq d (1000000+e)=false:=a0c (by omega)
      simp only [U6,h1,h2,ih]
theorem a7P (hn:nt≤1000000) (T:List (Nat×α)) {e:Nat} (h:1000000≤e):U6 (Q9 nt T) e=U6 T (e+nt):=by
 induction T with
 |nil=>rfl
 |cons p T ih=>
  obtain⟨d,y⟩:=p
  simp only [Q9]
  split
  · rename_i hb
    have:=b0l hb
    have h1:Nat.beq d (e+nt)=false:=a0c (by omega)
    simp only [U6,h1,ih]
  · rename_i hb
    have hb:=a9d hb
    split
    · rename_i hc
      have hc:d<1000000+nt:=b0l hc
      have h1:Nat.beq (Nat.mod d 1000000) e=false:=a0c (by show d % 1000000≠e;omega)
      have h2:Nat.beq d (e+nt)=false:=a0c (by omega)
      simp only [U6,h1,h2,ih]
    · rename_i hc
      have hc:¬d<1000000+nt:=a9d hc
      simp only [U6]
      by_cases he:d=e+nt
      · have h1:Nat.beq (Nat.sub d nt) e=true:=by rw [Nat.beq_eq];show d-nt=e;omega
        have h2:Nat.beq d (e+nt)=true:=by rw [Nat.beq_eq];exact he
        rw [h1,h2]
      · have h1:Nat.beq (Nat.sub d nt) e=false:=a0c (by show d-nt≠e;omega)
        rw [h1,a0c he];exact ih
theorem b2d (hn:nt≤1000000) (T:List (Nat×α)) {e:Nat} (h:¬e<nt) (h':e<1000000):U6 (Q9 nt T) e=none:=by
 induction T with
 |nil=>rfl
 |cons p T ih=>
  obtain⟨d,y⟩:=p
  simp only [Q9]
  split
  · exact ih
  · rename_i hb
    have hb:=a9d hb
    split
    · rename_i hc
      have hc:d<1000000+nt:=b0l hc
      have h1:Nat.beq (Nat.mod d 1000000) e=false:=a0c (by show d % 1000000≠e;omega)
      simp only [U6,h1,ih]
    · rename_i hc
      have hc:¬d<1000000+nt:=a9d hc
      have h1:Nat.beq (Nat.sub d nt) e=false:=a0c (by show d-nt≠e;omega)
      simp only [U6,h1,ih]
end
theorem b6e {j nt:Nat} {T:List (Nat×SV)} (h:B0 j T=true):B0 j (a0u nt T)=true:=by
 induction T with
 |nil=>rfl
 |cons p T ih=>
  obtain⟨d,y⟩:=p
  simp only [B0]at h
  split at h
  · cases h
  · rename_i hm
    simp only [a0u]
    split
    · simp only [B0,hm];exact ih h
    · split
      · exact ih h
      · simp only [B0,hm];exact ih h
theorem b2L {j nt:Nat} {T:List (Nat×SV)} (h:B0 j T=true):B0 j (Q9 nt T)=true:=by
 induction T with
 |nil=>rfl
 |cons p T ih=>
  obtain⟨d,y⟩:=p
  simp only [B0]at h
  split at h
  · cases h
  · rename_i hm
    simp only [Q9]
    split
    · exact ih h
    · split
      · simp only [B0,hm];exact ih h
      · simp only [B0,hm];exact ih h
theorem b3l {j:Nat}:∀ {n:Nat} {l:List SV},O8 j l=false→B0 j (a3Z n l)=true
 |_, [],_=>rfl
 |n,x::l,h=>by
  simp only [O8]at h
  split at h
  · cases h
  · rename_i hm
    simp only [a3Z,B0,hm];exact b3l h
theorem b9B {j:Nat} {l r:List (Nat×SV)} (hl:B0 j l=true) (hr:B0 j r=true):B0 j (l++r)=true:=by
 induction l with
 |nil=>exact hr
 |cons p l ih=>
  obtain⟨d,y⟩:=p
  simp only [B0]at hl
  split at hl
  · cases hl
  · rename_i hm
    simp only [List.cons_append,B0,hm];exact ih hl
theorem c3g {X X':Cy} (h:X.tt=X'.tt) (st:Sy) (rs:List ResultVar):a1x X st rs=a1x X' st rs:=by
 induction rs with
 |nil=>rfl
 |cons r rs ih=>cases r<;>simp only [a1x,ih,h]
theorem d8.get {ok:Nat→Prop} {w:World} {R:Bool→Nat→Prop} {l:List D} {r:List SV} (h:d8 ok w R l r) {i:Nat} {x:D} (hx:l[i]?=some x):∃s,r[i]?=some s∧i0 ok w R x s:=by
 induction l generalizing r i with
 |nil=>simp at hx
 |cons d l ih=>cases r with
  |nil=>simp [d8]at h
  |cons y r=>
   simp only [d8]at h
   cases i with
   |zero=>simp at hx;subst hx;exact⟨y,rfl,h.1⟩
   |succ i=>simp at hx;simpa using ih h.2 hx
theorem b2I {nt:Nat} (hn:nt≤1000000) {T:List (Nat×SV)} {d:Nat} {s:SV} (h:C6 (a0u nt T) d=some s):(∃e,d=1000000+e∧e<nt∧C6 T e=some s)∨(∃e,d=e+nt∧1000000≤e∧C6 T e=some s):=by
 rw [a2E]at h
 by_cases h1:d<1000000
 · rw [b5T hn _ h1]at h;cases h
 · by_cases h2:d<1000000+nt
   · obtain⟨e,rfl⟩:∃e,d=1000000+e:=⟨d-1000000,by omega⟩
     rw [a9E hn _ (by omega)]at h
     exact .inl ⟨e,rfl,by omega,by rw [a2E];exact h⟩
   · obtain⟨e,rfl⟩:∃e,d=e+nt:=⟨d-nt,by omega⟩
     rw [b1S hn _ (by omega)]at h
     exact .inr ⟨e,rfl,by omega,by rw [a2E];exact h⟩
theorem b0F {nt:Nat} (hn:nt≤1000000) {T:List (Nat×D)} {d:Nat} {s:D} (h:w8 (a0u nt T) d=some s):(∃e,d=1000000+e∧e<nt∧w8 T e=some s)∨(∃e,d=e+nt∧1000000≤e∧w8 T e=some s):=by
 rw [a7l]at h
 by_cases h1:d<1000000
 · rw [b5T hn _ h1]at h;cases h
 · by_cases h2:d<1000000+nt
   · obtain⟨e,rfl⟩:∃e,d=1000000+e:=⟨d-1000000,by omega⟩
     rw [a9E hn _ (by omega)]at h
     exact .inl ⟨e,rfl,by omega,by rw [a7l];exact h⟩
   · obtain⟨e,rfl⟩:∃e,d=e+nt:=⟨d-nt,by omega⟩
     rw [b1S hn _ (by omega)]at h
     exact .inr ⟨e,rfl,by omega,by rw [a7l];exact h⟩
theorem b3M {n d:Nat} {l:List SV} (h:d<n∨n+l.length≤d):C6 (a3Z n l) d=none:=by
 induction l generalizing n with
 |nil=>rfl
 |cons x l ih=>
  simp only [List.length_cons]at h
  simp only [a3Z,C6,a0c (show n≠d by omega)]
  exact ih (by omega)
theorem b7a (hA:∀b,(w0.heap.size≤b∨b∈bor)→A b) (hP:POK X.P X.tt) {o:Oper} {Q:Exit→Act→World→Prop} {KY:Sy→Prop} {f:FuncId} {args:List D} {args':List SV} (hr:Rel (cx X w0 bor) st a w) (hs:Sim A st sy) (ha:d8 (okS A st) st.w (D7 st) args args')
 (h:O9 X f args o.dst sy KY) (hout:a2k (cx X w0 bor) st a o (.call f args')):o.wp X.P a w (LvY A (cx X w0 bor) st.H w KY) Q:=by
 obtain⟨nt,pl,ln,un,inl,fn,c,st0,st1,⟨hf,hb,hnt,hg,hl⟩,hsub,hbody,hk⟩:=h.ex
 have hg:nt≤1000000:=Nat.le_of_ble_eq_true hg
 have hl:args.length≤nt:=Nat.le_of_ble_eq_true hl
 have hlen:=ha.length
 have hXn:X.nt≤1000000:=hr.size.2
 have hXs:a.tmps.size=X.nt:=hr.size.1
 generalize hX':(⟨X.P,X.tt,nt,pl,ln,un, [],inl, []⟩:Cy)=X' at hbody
 have hP':X'.P=X.P:=by rw [←hX']
 have htt:X'.tt=X.tt:=by rw [←hX']
 have hn':X'.nt=nt:=by rw [←hX']
 have hd':X'.dfs= []:=by rw [←hX']
 generalize hsv:a.tmps.toList++X.sv=sv
 have hrc:Rel (cx { X' with sv:=sv} w0 bor) ⟨a3Z 0 args'++a0u X.nt st.T,st.H,st.nk,st.w,st.lo,st.iv⟩ { tmps:=(j7 st.H args').toArray++Array.replicate (fn.ntmps-(j7 st.H args').toArray.size) undef,defers:= []} w:=by
  refine⟨⟨by simp [cx,hn',s5,←hlen];omega,by simp only [cx,hn'];exact hg⟩,fun d s hs=> ?_,by simp [cx,hd'],⟨hr.cls.fx,hr.cls.fx0,hr.cls.own,hr.cls.nd,hr.cls.lb,hr.cls.keys,hr.cls.lt⟩,hr.lo,hr.iv⟩
  simp only [a4P]at hs
  split at hs
  · rename_i s' hz
    cases hs
    obtain⟨_,h2⟩:=a2N (n:=0) hz
    simp only [Nat.sub_zero]at h2
    have hlt:d<args'.length:=(List.getElem?_eq_some_iff.1 h2).1
    right
    have h3:(j7 st.H args')[d]?=some (den st.H s):=by rw [b2w,h2];rfl
    rw [R9,if_pos (show d<1000000 by omega),Array.getElem?_append_left (by simp [s5];exact hlt)]
    simpa using h3
  · rcases b2I hXn hs with⟨e,rfl,he,hl'⟩|⟨e,rfl,he,hl'⟩
    · rcases hr.T e s hl' with h|h
      · exact .inl h
      · right
        rw [R9,if_pos (show e<1000000 by omega)]at h
        rw [R9,if_neg (by simp)]
        simp only [cx,←hsv]
        rw [show 1000000+e-R0=e by simp,List.getElem?_append_left (by simp [hXs];exact he)]
        simpa using h
    · rcases hr.T e s hl' with h|h
      · exact .inl h
      · right
        rw [R9,if_neg (show¬e<1000000 by omega)]at h
        rw [R9,if_neg (show¬e+X.nt<1000000 by omega)]
        simp only [cx,←hsv]
        rw [List.getElem?_append_right (by simp [hXs,R0];omega)]
        rw [show e+X.nt-R0-a.tmps.toList.length=e-R0 by simp [hXs,R0];omega]
        exact h
 have hsc:Sim A ⟨a3Z 0 args'++a0u X.nt st.T,st.H,st.nk,st.w,st.lo,st.iv⟩ ⟨a2H 0 args++a0u X.nt sy.T,sy.H,sy.nk⟩:=by
  refine⟨fun d x hx=> ?_,hs.H,hs.nk,fun j hj=> ?_,hs.fH⟩
  · simp only [b4z]at hx
    split at hx
    · rename_i x' hz
      cases hx
      obtain⟨_,h2⟩:=a2P hz
      simp only [Nat.sub_zero]at h2
      obtain⟨s,h3,h4⟩:=ha.get h2
      exact .inr ⟨s,by simp only [a4P,a5o (Nat.zero_le _) (show args'[d-0]?=some s from h3)],h4⟩
    · rcases b0F hXn hx with⟨e,rfl,he,hl'⟩|⟨e,rfl,he,hl'⟩
      · rcases hs.T e x hl' with h|⟨s,h1,h2⟩
        · exact .inl h
        · refine .inr ⟨s, ?_,h2⟩
          simp only [a4P,b3M (n:=0) (l:=args') (d:=1000000+e) (.inr (by omega))]
          rw [a2E,a9E hXn _ he,←a2E];exact h1
      · rcases hs.T e x hl' with h|⟨s,h1,h2⟩
        · exact .inl h
        · refine .inr ⟨s, ?_,h2⟩
          simp only [a4P,b3M (n:=0) (l:=args') (d:=e+X.nt) (.inr (by omega))]
          rw [a2E,b1S hXn _ he,←a2E];exact h1
  · exact b9B (b3l (ha.ment fun q=>a8L hj q)) (b6e (hs.fT j hj))
 obtain⟨st0',hs0,hr0,hb0⟩:=hsub.rel hA hsc hrc
 have hcall:Calls X.P f (j7 st.H args').toArray w fun e w'=>∃v,e= .returned v∧LvY A (cx X w0 bor) st.H w KY (a.put o.dst v) w':=by
  refine calls_of_wp hf hb (hP'▸hbody A w0 bor sv st0' _ w _ hA hs0 hr0 fun e st' sy' a' w' hp hk' hs' hlv=> ?_)
  obtain⟨T,H,nk⟩:=sy'
  have fin:(match a1x X' ⟨T,H,nk⟩ fn.results.toList with
   |some l=>Y1 X ⟨Q9 X.nt T,H,nk⟩ o.dst (b8G l) fun sy=>i4 sy st1
   |none=>False)→a'.defers= []∧∃v,(results fn a'.tmps).run X.P w'= .ok v w'∧∃v1,Ending.returned v= .returned v1∧LvY A (cx X w0 bor) st.H w KY (a.put o.dst v1) w':=by
   intro hk'
   cases hres:a1x X' ⟨T,H,nk⟩ fn.results.toList with
   |none=>rw [hres]at hk';exact hk'.elim
   |some l=>
    rw [hres]at hk'
    simp only at hk'
    rw [c3g (X:=X') (X':= { X' with sv:=sv}) rfl]at hres
    obtain⟨l',h1,h2⟩:=a4m (w0:=w0) (bor:=bor) hs' hres
    have hrun:=a2X (X:=cx { X' with sv:=sv} w0 bor) (by simp only [cx];rw [hP',htt];exact hP.tt) hlv.rel h1
    have hrun:(results fn a'.tmps).run X.P w'= .ok (a8s st'.H l') w':=by rw [←hP'];exact hrun
    have hrd:∃s,i0 (okS A st') st'.w (D7 st') (b8G l) s∧den st'.H s=a8s st'.H l':=by
     match l,l',h2 with
     | [x], [s],h2=>exact⟨s,h2.1,rfl⟩
     | [], [],h2=>exact⟨.tup [],by simp only [b8G,i0];exact .inl ⟨[],rfl,trivial⟩,by simp [den,a8s]⟩
     |x::y::l,x'::y'::l',h2=>exact⟨.tup (x'::y'::l'),by simp only [b8G,i0];exact .inl ⟨_,rfl,h2⟩,by simp [den,a8s]⟩
     | [],_::_,h2=>simp [d8]at h2
     | [_], [],h2=>simp [d8]at h2
     | [_],_::_::_,h2=>simp [d8]at h2
     |_::_::_, [],h2=>simp [d8]at h2
     |_::_::_, [_],h2=>simp [d8]at h2
    obtain⟨s,hrd,hden⟩:=hrd
    refine⟨hlv.rel.dfs.trans hd',_,hrun,_,rfl, ?_⟩
    have hrl:=hlv.rel
    have hrr:Rel (cx X w0 bor) ⟨Q9 X.nt st'.T,st'.H,st'.nk,st'.w,st'.lo,st'.iv⟩ a w':=by
     refine⟨hr.size,fun d s hl=> ?_,hr.dfs,⟨hrl.cls.fx,hrl.cls.fx0,hrl.cls.own,hrl.cls.nd,hrl.cls.lb,hrl.cls.keys,hrl.cls.lt⟩,hrl.lo,hrl.iv⟩
     rw [a2E]at hl
     by_cases c1:d<X.nt
     · rw [a6Q hXn _ c1,←a2E]at hl
       rcases hrl.T _ _ hl with h|h
       · exact .inl h
       · right
         rw [R9,if_neg (by simp)]at h
         simp only [cx,←hsv]at h
         rw [show 1000000+d-R0=d by simp,List.getElem?_append_left (by simp [hXs];exact c1)]at h
         rw [R9,if_pos (show d<1000000 by omega)]
         simpa using h
     · by_cases c2:d<1000000
       · rw [b2d hXn _ c1 c2]at hl;cases hl
       · rw [a7P hXn _ (by omega),←a2E]at hl
         rcases hrl.T _ _ hl with h|h
         · exact .inl h
         · right
           rw [R9,if_neg (show¬d+X.nt<1000000 by omega)]at h
           simp only [cx,←hsv]at h
           rw [List.getElem?_append_right (by simp [hXs,R0];omega)]at h
           rw [show d+X.nt-R0-a.tmps.toList.length=d-R0 by simp [hXs,R0];omega]at h
           rw [R9,if_neg c2];exact h
    have hsr:Sim A ⟨Q9 X.nt st'.T,st'.H,st'.nk,st'.w,st'.lo,st'.iv⟩ ⟨Q9 X.nt T,H,nk⟩:=by
     refine⟨fun d x hx=> ?_,hs'.H,hs'.nk,fun j hj=>b2L (hs'.fT j hj),hs'.fH⟩
     simp only at hx
     rw [a7l]at hx
     by_cases c1:d<X.nt
     · rw [a6Q hXn _ c1,←a7l]at hx
       rcases hs'.T _ _ hx with h|⟨s,h1,h2⟩
       · exact .inl h
       · exact .inr ⟨s,by simp only;rw [a2E,a6Q hXn _ c1,←a2E];exact h1,h2⟩
     · by_cases c2:d<1000000
       · rw [b2d hXn _ c1 c2]at hx;cases hx
       · rw [a7P hXn _ (by omega),←a7l]at hx
         rcases hs'.T _ _ hx with h|⟨s,h1,h2⟩
         · exact .inl h
         · exact .inr ⟨s,by simp only;rw [a2E,a7P hXn _ (by omega),←a2E];exact h1,h2⟩
    obtain⟨st2,⟨sy2,k1,k2⟩,k3,k4⟩:=a2C hrr (K8 (w0:=w0) (bor:=bor) hk' hsr hrd) (v:=a8s st'.H l') (.inr hden.symm)
    obtain⟨st3,hs3,hr3,hb3⟩:=k1.rel hA k2 k3
    refine⟨st3,st1,hk,hs3,hr3,hlv.fx.wide fun b hb=>hb0 b hb,fun b hb=> ?_⟩
    have:=hb3 b hb
    rw [k4]at this
    rcases hlv.bs b this with h|h
    · exact .inl (hb0 b h)
    · exact .inr h
  cases e with
  |normal=>rw [hP'];exact fin hk'
  |ret=>rw [hP'];exact fin hk'
  |exit j=>exact hk'.elim
  |goto l=>exact hp.elim
  |panic c=>exact hp.elim
  |outgrown=>exact hp.elim
 have hbody:=a1g hcall fun e w' ⟨v,he,_⟩=>⟨v,he⟩
 unfold Oper.wp
 rw [show(execOp a.eval o).run X.P w=_ from hout w hbody]
 simp only [Oper.upon]
 refine hcall.mono fun e w' ⟨v,he,hh⟩=> ?_
 subst he
 exact hh
theorem c1v (hA:∀b,(w0.heap.size≤b∨b∈bor)→A b) (hP:POK X.P X.tt) {o:Oper} {Q:Exit→Act→World→Prop} {KY:Sy→Prop} (hy:y1 X sy o.op (a6n X true sy o.dst KY)) (hs:Sim A st sy) (hr:Rel (cx X w0 bor) st a w):o.wp X.P a w (LvY A (cx X w0 bor) st.H w KY) Q:=by
 have hev:=b6H (X:=X) (w0:=w0) (bor:=bor) (st:=st) (K:=fun out=>∃oy,a7T st.H (okS A st) st.w (D7 st) oy out∧a6n X true sy o.dst KY oy) (fun oy out h1 h2=>⟨oy,h1,h2⟩) (zOK hP) hs hy
 obtain⟨out,⟨oy,hro,hfin⟩,hout⟩:=b5d (X:=cx X w0 bor) hP.tt hP.ng hr.ev (a3T hr.cls) hev
 by_cases hcall:∃f args,out= .call f args
 · obtain⟨f,args',rfl⟩:=hcall
   cases oy<;>try exact hro.elim
   obtain⟨rfl,hargs⟩:=hro
   simp only [a6n]at hfin
   split at hfin
   · exact b7a hA hP hr hs hargs hfin hout
   · exact b8T hA hr hs hargs hfin hout
 · have hf:=a5k (w0:=w0) (bor:=bor) hA hfin hro hs (.inr fun f args e=>hcall ⟨f,args,e⟩)
   refine Oper.wp_mono (fun a' w' hl=> ?_) (c0S (X:=cx X w0 bor) (Q:=Q) hP.tt hf hout hr)
   obtain⟨st2,⟨sy2,hK2,hs2⟩,hr2,hf0,hb0⟩:=hl
   exact⟨st2,sy2,hK2,hs2,hr2,hf0.wide (fun b h=>c0i b h),hb0.bs⟩
theorem a8q (hA:∀b,(w0.heap.size≤b∨b∈bor)→A b) (hP:POK X.P X.tt) {ops:Array Oper} {Q:Exit→Act→World→Prop}:∀(rest:List Oper) (st:St) (sy:Sy) (a:Act) (w:World) (K:Sy→Prop),b4S X ops.toList rest sy K→Sim A st sy→Rel (cx X w0 bor) st a w→
 (∀st' sy' a' w',K sy'→Sim A st' sy'→Lv (cx X w0 bor) st.H w st' a' w'→Q .normal a' w')→wpList X.P ops Q rest a w
 | [],st,sy,a,w,K,h,hs,hr,hQ=>hQ st sy a w h hs (Lv.refl hr)
 |o::rest,st,sy,a,w,K,h,hs,hr,hQ=>by
  simp only [b4S]at h
  have hg:=a9K (yes:=fun st'=>∃sy',Sim A st' sy'∧y1 X sy' o.op (a6n X true sy' o.dst fun st=>b4S X ops.toList rest st K)) (no:=fun st'=>∃sy',Sim A st' sy'∧Y1 X sy' o.dst .und fun st=>b4S X ops.toList rest st K) h hs (fun st' sy' h1 h2=>⟨sy',h1,h2⟩) (fun st' sy' h1 h2=>⟨sy',h1,h2⟩)
  obtain⟨st1,hsm,_,hr1,hg⟩:=b2a (X:=cx X w0 bor) hg hr
  rw [←hsm.H]at hQ
  rcases hg with⟨hw,sy1,hs1,hy⟩|⟨hw,sy1,hs1,hn⟩
  · simp only [wpList,hw,if_true]
    left
    exact Oper.wp_mono (fun a' w' ⟨st2,sy2,hK2,hs2,hl2⟩=>a8q hA hP rest st2 sy2 a' w' K hK2 hs2 hl2.rel fun st' sy' a'' w'' hK' hs' hlv=>hQ st' sy' a'' w'' hK' hs' (Lv.trans hl2 hlv)) (c1v hA hP hy hs1 hr1)
  · simp only [wpList,hw]
    obtain⟨st2,⟨sy2,hK2,hs2⟩,hr2,hH2⟩:=a2C hr1 (K8 (w0:=w0) (bor:=bor) (s:= .v undef) hn hs1 (by simp only [i0])) (v:=undef) (.inr rfl)
    exact a8q hA hP rest st2 sy2 (a.put o.dst undef) w K hK2 hs2 hr2 fun st' sy' a'' w'' hK' hs' hlv=>hQ st' sy' a'' w'' hK' hs' (Lv.trans ⟨hr2,Fx.refl _ _,fun b hb=>by rw [hH2]at hb;exact .inl hb⟩ hlv)
theorem Sim.chA {A A':Nat→Prop} {st:St} {sy:Sy} (h:∀b,okS A st b→okS A' st b) (hs:Sim A st sy):Sim A' st sy:=
 ⟨fun d x hx=>(hs.T d x hx).imp id fun⟨s,h1,h2⟩=>⟨s,h1,i0.mono (fun b hb=>⟨h b hb,rfl⟩) (fun _ _ h=>h) _ _ h2⟩,
  fun k e he=>by obtain⟨e',h1,h2⟩:=hs.H k e he;exact⟨e',h1,a3z.mono (fun b hb=>⟨h b hb,rfl⟩) (fun _ _ h=>h) h2⟩,hs.nk,hs.fT,hs.fH⟩
theorem c1c {iv:List (Nat×Nat)} {b:Nat} (h:a5x iv b):¬∃p,p∈iv∧p.1≤b∧b<p.2:=by
 induction iv with
 |nil=>rintro⟨p,hp,_⟩;cases hp
 |cons q iv ih=>
  obtain⟨n,m⟩:=q
  simp only [a5x]at h
  rintro⟨p,hp,h1,h2⟩
  rcases List.mem_cons.1 hp with rfl|hp
  · rcases h.1 with h|h<;>simp only at h1 h2<;>omega
  · exact ih h.2 ⟨p,hp,h1,h2⟩
def a7F (E:List Nat):Nat→List (Nat×Nat)
 |0=> []
 |n+1=>match R8 n E with|true=>a7F E n|false=>(n,n+1)::a7F E n
theorem b2B {E:List Nat} {b:Nat} (hb:b∈E):∀n,a5x (a7F E n) b
 |0=>trivial
 |n+1=>by
  simp only [a7F]
  split
  · exact b2B hb n
  · rename_i h
    refine⟨?_,b2B hb n⟩
    have:b≠n:=fun e=>by rw [e]at hb;rw [M6.2 hb]at h;cases h
    omega
theorem b1j {E:List Nat}:∀n p,p∈a7F E n→p.1≤p.2∧p.2≤n
 |0,p,h=>by cases h
 |n+1,p,h=>by
  simp only [a7F]at h
  split at h
  · have:=b1j n p h;omega
  · rcases List.mem_cons.1 h with rfl|h
    · simp
    · have:=b1j n p h;omega
theorem b3S {E:List Nat} {b:Nat} (hb:b∉E):∀n,b<n→∃p,p∈a7F E n∧p.1≤b∧b<p.2
 |0,h=>by omega
 |n+1,h=>by
  simp only [a7F]
  by_cases e:b=n
  · subst e
    split
    · rename_i hm;exact absurd (M6.1 hm) hb
    · exact⟨(b,b+1),List.mem_cons_self,Nat.le_refl _,Nat.lt_succ_self _⟩
  · obtain⟨p,h1,h2⟩:=b3S hb n (by omega)
    split
    · exact⟨p,h1,h2⟩
    · exact⟨p,List.mem_cons_of_mem _ h1,h2⟩
theorem b6b {ops:List Oper} {l:List Nat} {T:List (Nat×D)} {d:Nat} {x:D} (h:w8 (a2I .bad ops l T) d=some x) (hx:x≠ .bad):w8 T d=some x∧∀(T':List (Nat×SV)),C6 (a2I .bad ops l T') d=C6 T' d:=by
 induction l with
 |nil=>exact⟨h,fun _=>rfl⟩
 |cons i l ih=>
  simp only [a2I]at h⊢
  split at h
  · split at h
    · rename_i o ho _ _ d' ha hd
      simp only [w8]at h
      cases hb:Nat.beq d' d with
      |true=>rw [hb]at h;cases h;exact absurd rfl hx
      |false=>
       rw [hb]at h
       obtain⟨h1,h2⟩:=ih h
       exact⟨h1,fun T'=>by simp only [C6,hb];exact h2 T'⟩
    · exact ih h
  · exact ih h
theorem b6a {j:Nat} {ops:List Oper} {l:List Nat} {T:List (Nat×SV)} (h:B0 j T=true):B0 j (a2I .bad ops l T)=true:=by
 induction l with
 |nil=>exact h
 |cons i l ih=>
  simp only [a2I]
  split
  · split
    · simp only [B0,ment];exact ih
    · exact ih
  · exact ih
theorem c4f (hA:∀b,(w0.heap.size≤b∨b∈bor)→A b) (hP:POK X.P X.tt) {o:Oper} {Q:Exit→Act→World→Prop} {j:Nat} {S:List Nat} {KY:Sy→Prop} (hy:y1 X sy o.op (b5j X (j::S) sy o.dst KY)) (hs:Sim A st sy) (hr:Rel (cx X w0 bor) st a w):o.wp X.P a w (LvK A (cx X w0 bor) st.H w KY) Q:=by
 have hev:=b6H (X:=X) (w0:=w0) (bor:=bor) (st:=st) (K:=fun out=>∃oy,a7T st.H (okS A st) st.w (D7 st) oy out∧b5j X (j::S) sy o.dst KY oy) (fun oy out h1 h2=>⟨oy,h1,h2⟩) (zOK hP) hs hy
 obtain⟨out,⟨oy,hro,hfin⟩,hout⟩:=b5d (X:=cx X w0 bor) hP.tt hP.ng hr.ev (a3T hr.cls) hev
 cases oy<;>try exact hfin.elim
 cases out<;>try exact hro.elim
 obtain⟨rfl,hargs⟩:=hro
 simp only [b5j]at hfin
 split at hfin
 · exact b1W hA hr hs hargs (by assumption) hfin hout
 · exact hfin.elim
theorem c4i (hA:∀b,(w0.heap.size≤b∨b∈bor)→A b) (hP:POK X.P X.tt) {o:Oper} {ops:List Oper} {l S:List Nat} {KY:Sy→Prop} {K:St→Prop}
 (hy:y1 X sy o.op (b5j X S sy o.dst fun st=>match st with|⟨T,H,nk⟩=>KY ⟨a2I .bad ops l T,H,nk⟩)) (hs:Sim A st sy)
 (hK:∀st' sy',KY sy'→Sim A st' sy'→K st'):c3K (cx X w0 bor) o (kpS S) st fun st=>match st with|⟨T,H,nk,w,lo,iv⟩=>K ⟨a2I .bad ops l T,H,nk,w,lo,iv⟩:=by
 intro E a w hr hE
 have hc:=hr.cls
 have hs':Sim (fun b=>A b∧b∉E) (now st w) sy:=by
  have:=hs.chA (A':=fun b=>A b∧b∉E) fun b hb=>⟨⟨hb.1.1,hb.1.2,fun he=>by
   obtain⟨_,h1,h2,_⟩:=hE b he
   rcases hb.1.1 with h|h
   · omega
   · exact c1c h2 h⟩,hb.2⟩
  exact this.now hc
 have hr':Rel (cx X w (bs st.H)) (now st w) a w:=
  ⟨hr.size,hr.T,hr.dfs,⟨Fx.refl _ _,Fx.refl _ _,hc.own,hc.nd,fun b hb=> .inl hb,hc.keys,hc.lt⟩,Nat.le_refl _,by simp [now]⟩
 have hA':∀b,(w.heap.size≤b∨b∈bs st.H)→A b∧b∉E:=fun b hb=>by
  refine⟨?_,fun he=> ?_⟩
  · rcases hb with hb|hb
    · exact hA b (.inl (Nat.le_trans hc.fx0.size hb))
    · exact hA b (hc.lb b hb).symm
  · obtain⟨h0,_,_,h3⟩:=hE b he
    rcases hb with hb|hb
    · omega
    · exact h0 hb
 obtain⟨N,hN⟩:∃N:Act→World→Prop,N=fun a' w'=>∃st2 sy2,(match sy2 with|⟨T,H,nk⟩=>KY ⟨a2I .bad ops l T,H,nk⟩)∧Sim (fun b=>A b∧b∉E) st2 sy2∧Lv (cx X w (bs st.H)) (now st w).H w st2 a' w'∧(kpS S=true→(∀i,i<w.heap.size→w'.heap[i]?=w.heap[i]?)∧KB st.H w st2.H):=⟨_,rfl⟩
 have hwp:o.wp X.P a w N (fun _ _ _=>False):=by
  rw [hN]
  cases S with
  |nil=>exact Oper.wp_mono (fun a' w' ⟨st2,sy2,g1,g2,g3⟩=>⟨st2,sy2,g1,g2,g3,fun h=>by cases h⟩) (c1v (Q:=fun _ _ _=>False) hA' hP hy hs' hr')
  |cons j S=>exact Oper.wp_mono (fun a' w' ⟨st2,sy2,g1,g2,g3,g4⟩=>⟨st2,sy2,g1,g2,g3,fun _=>g4⟩) (c4f (Q:=fun _ _ _=>False) hA' hP hy hs' hr')
 rcases a8Y (X:=cx X w (bs st.H)) (Q:=fun _ _ _=>False) (a:=a) (A:=a) (next:=N) rfl hwp
  (fun _ _ h=>by rw [hN]at h;obtain⟨_,_,_,_,hl,_⟩:=h;exact hl.rel.dfs.trans hr.dfs.symm)with h|⟨_,_,h⟩
 case inr=>exact h.elim
 refine Oper.wp_mono (fun a' w' hh=> ?_) h
 rw [hN]at hh
 obtain⟨v,hv,st2,sy2,hk,hs2,hl,hkp⟩:=hh
 have hrl:=hl.rel
 have hs3:=hs2.now hrl.cls
 obtain⟨T2,H2,nk2,ws2,lo2,iv2⟩:=st2
 obtain⟨T,H,nk⟩:=sy2
 have hbs2:∀b,b∈bs H2→b∈bs st.H∨w.heap.size≤b:=hl.bs
 have hok:∀b,okS (fun b=>A b∧b∉E) (now ⟨T2,H2,nk2,ws2,lo2,iv2⟩ w') b→okS A ⟨T2,H2,nk2,w',0,a7F E w'.heap.size⟩ b∧w'.heap[b]?=w'.heap[b]?:=fun b hb=>
  ⟨⟨⟨.inr (b3S hb.1.2.2 _ hb.2.1),hb.1.2.1⟩,hb.2⟩,rfl⟩
 refine⟨v,hv,⟨T2,H2,nk2,w',0,a7F E w'.heap.size⟩, ?_,⟨⟨by subst hv;exact hrl.size,fun d s hd=>by subst hv;exact hrl.T d s hd,by subst hv;exact hrl.dfs,
  ⟨Fx.refl _ _,Fx.trans hc.fx0 hl.fx (fun _ h=>h) fun b hb=>hc.lb b hb,hrl.cls.own,hrl.cls.nd,fun b hb=> ?_,hrl.cls.keys,hrl.cls.lt⟩,Nat.zero_le _,fun p hp=>b1j _ p hp⟩,hl.fx,hl.bs⟩,fun b hb=>⟨Nat.zero_le _,b2B hb _⟩,hkp⟩
 · simp only at hk⊢
   refine hK _ _ hk ⟨fun d x hx=> ?_,fun k e he=> ?_,hs3.nk,fun j hj=>b6a (hs3.fT j hj),hs3.fH⟩
   · by_cases hbad:x= .bad
     · exact .inl hbad
     · obtain⟨g1,g2⟩:=b6b hx hbad
       rcases hs3.T d x g1 with h|⟨s,h1,h2⟩
       · exact .inl h
       · exact .inr ⟨s,by simp only [g2];exact h1,i0.mono hok (fun _ _ h=>h) _ _ h2⟩
   · obtain⟨e',h1,h2⟩:=hs3.H k e he
     exact⟨e',h1,a3z.mono hok (fun _ _ h=>h) h2⟩
 · rcases hbs2 b hb with h|h
   · exact hc.lb b h
   · exact .inr (Nat.le_trans hc.fx0.size h)
theorem a1Z (hA:∀b,(w0.heap.size≤b∨b∈bor)→A b) (hP:POK X.P X.tt) {ops:List Oper}:∀(p:PT) {st:St} {sy:Sy} {pr:List (Nat×Option Nat)} {K:Sy→Prop},a6d X ops p sy pr K→Sim A st sy→a3s (cx X w0 bor) ops p st pr fun st'=>∃sy',K sy'∧Sim A st' sy'
 | .nil,st,sy,pr,K,h,hs=>⟨sy,h,hs⟩
 | .fork p q,st,sy,pr,K,h,hs=>⟨a1Z hA hP p h.1 hs,a1Z hA hP q h.2 hs⟩
 | .op i S fl rest,st,sy,pr,K,h,hs=>by
  simp only [a6d]at h
  simp only [a3s]
  split at h
  · rename_i o ho
    rw [ho]
    refine a9K h hs (fun st' sy' h1 h2=> ?_) (fun st' sy' h1 h2=> ?_)
    · have plain:y1 X sy' o.op (b5N X i S fl pr o sy' fun st pr=>a6d X ops rest st pr K)→ev1 (cx X w0 bor) st' o.op (b5R (cx X w0 bor) i S fl pr o st' fun st pr=>a3s (cx X w0 bor) ops rest st pr fun st'=>∃sy',K sy'∧Sim A st' sy'):=fun h2=>
       b6H (X:=X) (w0:=w0) (bor:=bor) (KY:=b5N X i S fl pr o sy' fun st pr=>a6d X ops rest st pr K) (fun oy out hro hk=>b8W hA hk hro h1 fun st2 sy2 pr hs2 hk2=>a1Z hA hP rest hk2 hs2) (zOK hP) h1 h2
      cases hc:a1Q o with
      |false=>simp only [b3o,hc]at h2;simp only [b0t,hc];exact plain h2
      |true=>
       cases fl with
       |false=>simp only [b3o,hc]at h2;simp only [b0t,hc];exact plain h2
       |true=>
        simp only [b3o,hc]at h2
        simp only [b0t,hc]
        exact c4i (KY:=fun st=>a6d X ops rest st pr K) (K:=fun st'=>a3s (cx X w0 bor) ops rest st' pr fun st'=>∃sy',K sy'∧Sim A st' sy') hA hP h2 h1 fun st2 sy2 hk hs2=>a1Z hA hP rest hk hs2
    · exact V0 (K8 (w0:=w0) (bor:=bor) (s:= .v undef) h2 h1 (by simp only [i0])) fun st2 ⟨sy2,hk2,hs2⟩=>a1Z hA hP rest hk2 hs2
  · exact h.elim
end
end Go.Sx
namespace Go.Sx
open Go Go.RowKit
mutual
theorem b7B {ok:Nat→Prop} {w:World}:∀(x y:D) (v:Value),leD x y→Rep ok w x v→Rep ok w y v
 | .v x,y,v,h,hr=>by
  simp only [leD]at h
  rcases h with rfl|⟨rfl,z,rfl⟩
  · exact hr
  · simp only [Rep]at hr⊢
    rw [hr.1]
    exact⟨none,0,rfl,Nat.le_refl _,by simp,by simp,rfl, .inl rfl⟩
 | .agg l,y,v,h,hr=>by
  simp only [leD]at h
  obtain⟨r,rfl,h⟩:=h
  simp only [Rep]at hr⊢
  obtain⟨a,h1,h2,h3⟩:=hr
  exact⟨a,h1,b0O l r _ h h2,b4J l r h h3⟩
 | .tup l,y,v,h,hr=>by
  simp only [leD]at h
  obtain⟨r,rfl,h⟩:=h
  simp only [Rep]at hr⊢
  obtain⟨a,h1,h2⟩:=hr
  exact⟨a,h1,b0O l r _ h h2⟩
 | .lst _ _ _,y,v,h,hr=>by simp only [leD]at h;subst h;exact hr
 | .ptr _ _,y,v,h,hr=>by simp only [leD]at h;subst h;exact hr
 | .mp _,y,v,h,hr=>by simp only [leD]at h;subst h;exact hr
 | .fn _ _ _,y,v,h,hr=>by simp only [leD]at h;subst h;exact hr
 | .own _ _,_,_,_,hr=>by simp [Rep]at hr
 | .ownx _ _,_,_,_,hr=>by simp [Rep]at hr
 | .row _ _,_,_,_,hr=>by simp [Rep]at hr
 | .elr _ _ _ _,_,_,_,hr=>by simp [Rep]at hr
 | .osl _ _ _ _ _,_,_,_,hr=>by simp [Rep]at hr
 | .und,_,_,_,hr=>by simp [Rep]at hr
 | .bad,_,_,_,hr=>by simp [Rep]at hr
theorem b0O {ok:Nat→Prop} {w:World}:∀(l r:List D) (v:List Value),a3L l r→j3 ok w l v→j3 ok w r v
 | [], [],v,_,hr=>hr
 |x::l,y::r,v::vs,h,hr=>by
  simp only [a3L]at h
  simp only [j3]at hr⊢
  exact⟨b7B x y v h.1 hr.1,b0O l r vs h.2 hr.2⟩
 |_::_,_::_, [],_,hr=>by simp [j3]at hr
 | [],_::_,_,h,_=>by simp [a3L]at h
 |_::_, [],_,h,_=>by simp [a3L]at h
end
mutual
theorem c7Y:∀(x:D),leD x x
 | .v x=>by simp only [leD];exact .inl trivial
 | .agg l=>by simp only [leD];exact⟨l,rfl,a3L.refl l⟩
 | .tup l=>by simp only [leD];exact⟨l,rfl,a3L.refl l⟩
 | .lst _ _ _=>by simp only [leD]
 | .ptr _ _=>by simp only [leD]
 | .mp _=>by simp only [leD]
 | .fn _ _ _=>by simp only [leD]
 | .own _ _=>by simp only [leD]
 | .ownx _ _=>by simp only [leD]
 | .row _ _=>by simp only [leD]
 | .elr _ _ _ _=>by simp only [leD]
 | .osl _ _ _ _ _=>by simp only [leD]
 | .und=>by simp only [leD]
 | .bad=>by simp only [leD]
theorem a3L.refl:∀(l:List D),a3L l l
 | []=>trivial
 |x::l=>⟨c7Y x,a3L.refl l⟩
end
theorem l8.le {P:Program} {f:FuncId} {args args':List D} {Q:D→Prop} (h:l8 P f args' Q) (hl:a3L args args'):l8 P f args Q:=fun ok w vs hr hok=>h ok w vs (b0O _ _ _ hl hr) hok
theorem l8.mono {P:Program} {f:FuncId} {args:List D} {Q Q':D→Prop} (h:l8 P f args Q) (hq:∀r,Q r→Q' r):l8 P f args Q':=fun ok w vs hr hok=>
 (h ok w vs hr hok).mono fun _ _ ⟨v,r,h1,h2,h3⟩=>⟨v,r,h1,hq r h2,h3⟩
section
variable {A : Nat → Prop} {X : Cy} {w0 : World} {bor : List Nat} {st : St} {sy : Sy} {a : Act} {w : World}
theorem a4j (hA:∀b,(w0.heap.size≤b∨b∈bor)→A b) (hP:POK X.P X.tt) (c:Code):∀(st:St) (sy:Sy) (a:Act) (w:World) (K:Exit→Sy→Prop) (Q:Exit→Act→World→Prop),U8 X c sy K→Sim A st sy→Rel (cx X w0 bor) st a w→
 (∀e st' sy' a' w',plain e→K e sy'→Sim A st' sy'→Lv (cx X w0 bor) st.H w st' a' w'→Q e a' w')→c.wp X.P Q a w:=by
 induction c with
 |skip=>exact fun st sy a w K Q h hs hr hQ=>wp_skip (hQ .normal st sy a w trivial h hs (Lv.refl hr))
 |label l=>exact fun st sy a w K Q h hs hr hQ=>wp_label (hQ .normal st sy a w trivial h hs (Lv.refl hr))
 |exit id=>exact fun st sy a w K Q h hs hr hQ=>wp_exit (hQ (.exit id) st sy a w trivial h hs (Lv.refl hr))
 |ret=>exact fun st sy a w K Q h hs hr hQ=>wp_ret (hQ .ret st sy a w trivial h hs (Lv.refl hr))
 |region id ops draw=>
  intro st sy a w K Q h hs hr hQ
  cases draw with
  |false=>exact wp_region_list (a8q hA hP ops.toList _ _ a w _ h hs hr fun st' sy' a' w' hk hs' hl=>hQ .normal st' sy' a' w' trivial hk hs' hl)
  |true=>
   simp only [U8]at h
   split at h
   · obtain⟨T,H,nk⟩:=sy
     obtain⟨T',H',nk',ws,lo,iv⟩:=st
     have hx:=a1Z (w0:=w0) (bor:=bor) hA hP _ h.2 (b1u (ops:=ops.toList) hs)
     exact wp_region_any hP.mix (a3v (X:=cx X w0 bor) hP hr h.1 hx fun st' a' w' ⟨sy',hk,hs'⟩ hl=>hQ .normal st' sy' a' w' trivial hk hs' hl)
   · exact h.elim
 |seq x y ihx ihy=>
  intro st sy a w K Q h hs hr hQ
  refine wp_seq (ihx st sy a w _ _ h hs hr fun e st1 sy1 a1 w1 hp hk hs1 hl=> ?_)
  cases e with
  |normal=>exact ihy st1 sy1 a1 w1 K Q hk hs1 hl.rel fun e st2 sy2 a2 w2 hp hk2 hs2 hl2=>hQ e st2 sy2 a2 w2 hp hk2 hs2 (Lv.trans hl hl2)
  |exit id=>exact hQ _ _ _ _ _ hp hk hs1 hl
  |ret=>exact hQ _ _ _ _ _ hp hk hs1 hl
  |goto l=>exact hp.elim
  |panic c=>exact hp.elim
  |outgrown=>exact hp.elim
 |cond c x y ihx ihy=>
  intro st sy a w K Q h hs hr hQ
  simp only [U8]at h
  split at h
  · rename_i b hc
    obtain⟨s,h1,h2,_⟩:=n8 hs hc
    have:=h2.sc;subst this
    have hb:a.eval c= .bool b:=by simpa [den]using (hr.ev c _ h1).2
    cases b with
    |true=>exact wp_cond_true hb (ihx st sy a w K Q h hs hr hQ)
    |false=>exact wp_cond_false hb (ihy st sy a w K Q h hs hr hQ)
  · exact h.elim
 |block id c ih=>
  intro st sy a w K Q h hs hr hQ
  refine wp_block (ih st sy a w _ _ h hs hr fun e st1 sy1 a1 w1 hp hk hs1 hl=> ?_)
  cases e with
  |normal=>exact hQ _ _ _ _ _ hp hk hs1 hl
  |exit j=>
   simp only [Exit.inBlock]
   simp only at hk
   split at hk
   · rename_i hb
     rw [if_pos (B9 hb)]
     exact hQ .normal _ _ _ _ trivial hk hs1 hl
   · rename_i hb
     rw [if_neg (a2Y hb)]
     exact hQ _ _ _ _ _ hp hk hs1 hl
  |ret=>exact hQ _ _ _ _ _ hp hk hs1 hl
  |goto l=>exact hp.elim
  |panic c=>exact hp.elim
  |outgrown=>exact hp.elim
 |scope c ih=>
  intro st sy a w K Q h hs hr hQ
  refine wp_scope_straight (ih st sy a w K _ h hs hr fun e st1 sy1 a1 w1 hp hk hs1 hl=> ?_)
  cases e with
  |normal=>exact hQ _ _ _ _ _ hp hk hs1 hl
  |exit j=>exact hQ _ _ _ _ _ hp hk hs1 hl
  |ret=>exact hQ _ _ _ _ _ hp hk hs1 hl
  |goto l=>exact hp.elim
  |panic c=>exact hp.elim
  |outgrown=>exact hp.elim
 |loop c ih=>
  intro st sy a w K Q h hs hr hQ
  have h:z7 (U8 X c) sy K:=h
  obtain⟨α,f,inv,μ,⟨x0,hsub,hinv⟩,hround⟩:=h.ex
  obtain⟨st0,hs0,hr0,hb0⟩:=hsub.rel hA hs hr
  refine wp_loop_ghost (fun n a1 w1=>∃x,μ x=n∧inv x∧∃st1,Sim A st1 (f x)∧Lv (cx X w0 bor) st.H w st1 a1 w1) (μ x0) ⟨x0,rfl,hinv,st0,hs0,hr0,Fx.refl _ _,fun b hb=> .inl (hb0 b hb)⟩ ?_
  rintro n a1 w1 ⟨x,rfl,hinv1,st1,hs1,hlv⟩
  refine ih st1 (f x) a1 w1 _ _ (hround x hinv1) hs1 hlv.rel fun e st2 sy2 a2 w2 hp hk hs2 hl=> ?_
  have hl2:=Lv.trans hlv hl
  cases e with
  |normal=>
   obtain⟨y,hsb,hi,hlt⟩:=hk
   obtain⟨st3,hs3,hr3,hb3⟩:=hsb.rel hA hs2 hl2.rel
   exact⟨μ y,hlt,y,rfl,hi,st3,hs3,hr3,hl2.fx,fun b hb=>hl2.bs b (hb3 b hb)⟩
  |exit j=>exact hQ _ _ _ _ _ hp hk hs2 hl2
  |ret=>exact hQ _ _ _ _ _ hp hk hs2 hl2
  |goto l=>exact hp.elim
  |panic c=>exact hp.elim
  |outgrown=>exact hp.elim
 |_=>intro st sy a w K Q h hs hr hQ;exact h.elim
theorem b2c (hA:∀b,(w0.heap.size≤b∨b∈bor)→A b) {Qr:D→Prop} {r:D} {s:SV} (h:a3m sy r Qr) (hs:Sim A st sy) (hr:Rel (cx X w0 bor) st a w) (hrel:i0 (okS A st) st.w (D7 st) r s):
 ∃r',Qr r'∧Rep (fun b=>A b∧b<w.heap.size) w r' (den st.H s):=by
 have hc:=hr.now.cls
 have hs0:=hs.now hr.cls
 have h0:i0 (okS A (now st w)) w (D7 (now st w)) r s:=i0.mono (a4T hr.cls) (fun _ _ h=>h) _ _ hrel
 unfold a3m at h
 split at h
 · rename_i hcl
   obtain⟨r',hle,hq⟩:=h.ex
   exact⟨r',hq,b7B _ _ _ hle (Rep.mono (fun b hb=>⟨⟨hb.1.2,hb.2.1⟩,rfl⟩) _ _ (a3U (H:=st.H) _ _ h0 hcl))⟩
 · split at h
   · rename_i sy' r1 hfz
     split at h
     · rename_i hcl
       obtain⟨r',hle,hq⟩:=h.ex
       obtain⟨st1,l1,c1,a1,s1,b1,o1,g1,g2⟩:=a5r (Xx:=cx X w0 bor) hA _ hc ⟨rfl,rfl,rfl⟩ hs0 (l:= [r]) (r:= [s]) (by exact⟨h0,trivial⟩) hfz
       obtain⟨s1',rfl,g3⟩:=g1.one1
       simp only [j7,List.cons.injEq,and_true]at g2
       have g2:den st1.H s1'=den st.H s:=g2
       refine⟨r',hq,b7B _ _ _ hle ?_⟩
       rw [←g2]
       exact Rep.mono (fun b hb=>⟨⟨hb.1.2,by have:=hb.2.1;rw [a1.1]at this;exact this⟩,rfl⟩) _ _ (a3U (H:=st1.H) _ _ g3 hcl)
     · exact h.elim
   · exact h.elim
end
theorem c4v {X:Cy} (hP:POK X.P X.tt) {f:FuncId} {fn:Func} {c:Code} (args:List D) {Qr:D→Prop} (hf:X.P.funcs[f]?=some fn) (hb:fn.body=some c) (hn:X.nt=fn.ntmps) (hl:args.length≤fn.ntmps)
 (h:U8 X c ⟨a2H 0 args, [],0⟩ (b9O X fn.results.toList Qr)) (h0:X.dfs= []:=by rfl) (hg:fn.ntmps≤R0:=by exact Nat.le_of_ble_eq_true rfl):l8 X.P f args Qr:=by
 intro ok w vl hrep hok
 have hA:∀b,(w.heap.size≤b∨b∈([]:List Nat))→(fun b=>b<w.heap.size→ok b) b:=fun b hb h=>by
  rcases hb with hb|hb
  · omega
  · cases hb
 refine calls_of_wp hf hb (a4j (A:=fun b=>b<w.heap.size→ok b) (w0:=w) (bor:= []) hA hP c ⟨a3Z 0 (vs vl), [],0,w,w.heap.size, []⟩ ⟨a2H 0 args, [],0⟩ _ _ _ _ h ?_ ?_ fun e st' sy' a' w' hp hk hs' hlv=> ?_)
 · refine⟨fun d x hx=> ?_,fun k e he=>by simp [o4]at he,rfl,fun j _=>a4l,fun _ _=>rfl⟩
   obtain⟨_,h2⟩:=a2P hx
   obtain⟨y,h3,h4⟩:=hrep.get h2
   right
   refine⟨.v y,a5o (Nat.zero_le _) ?_,Rep.rel _ _ (Rep.mono (fun b hb=>⟨⟨⟨.inl (hok b hb),fun _=>hb⟩,hok b hb,fun c hc=>by simp [bs]at hc⟩,rfl⟩) _ _ h4)⟩
   have:∀(l:List Value) (j:Nat),(vs l)[j]?=(l[j]?).map .v:=by
    intro l
    induction l with
    |nil=>simp [vs]
    |cons x l ih=>intro j;cases j<;>simp [vs,ih]
   rw [this,h3];rfl
 · refine⟨by simp [cx,hn,←hrep.length];omega,fun d s hs=> ?_,h0.symm,Cls.nil (cx X w []) 0,Nat.le_refl _,by simp⟩
   obtain⟨_,h2⟩:=a2N (n:=0) hs
   have:∀(l:List Value) (j:Nat),(vs l)[j]?=(l[j]?).map .v:=by
    intro l
    induction l with
    |nil=>simp [vs]
    |cons x l ih=>intro j;cases j<;>simp [vs,ih]
   simp only [Nat.sub_zero]at h2
   rw [this]at h2
   cases hv:vl[d]? with
   |none=>rw [hv]at h2;cases h2
   |some y=>
    rw [hv]at h2
    cases h2
    right
    have hlt:=(List.getElem?_eq_some_iff.1 hv).1
    rw [R9,if_pos (by have:=hrep.length;omega),Array.getElem?_append_left (by simpa using hlt)]
    simpa [den]using hv
 · have main:∀ {r:D} {s:SV},a3m sy' r Qr→i0 (okS (fun b=>b<w.heap.size→ok b) st') st'.w (D7 st') r s→(results fn a'.tmps).run X.P w'= .ok (den st'.H s) w'→a'.defers= []∧∃v,(results fn a'.tmps).run X.P w'= .ok v w'∧∃v1 r,Ending.returned v= .returned v1∧Qr r∧Rep (fun b=>ok b∨(w.heap.size≤b∧b<w'.heap.size)) w' r v1∧Below w.heap.size w w':=by
    intro r s hret hrel hrun
    obtain⟨r',hq,hrp⟩:=b2c hA hret hs' hlv.rel hrel
    refine⟨hlv.rel.dfs.trans h0,_,hrun,_,r',rfl,hq,Rep.mono (fun b hb=>⟨?_,rfl⟩) _ _ hrp,hlv.fx.below⟩
    by_cases hlt:b<w.heap.size
    · exact .inl (hb.1 hlt)
    · exact .inr ⟨by omega,hb.2⟩
   have fin:(match a1x X sy' fn.results.toList with
    |some [s]=>a3m sy' s Qr
    |some l=>a3m sy' (.tup l) Qr
    |none=>False)→a'.defers= []∧∃v,(results fn a'.tmps).run X.P w'= .ok v w'∧∃v1 r,Ending.returned v= .returned v1∧Qr r∧Rep (fun b=>ok b∨(w.heap.size≤b∧b<w'.heap.size)) w' r v1∧Below w.heap.size w w':=by
    intro hk
    cases hres:a1x X sy' fn.results.toList with
    |none=>rw [hres]at hk;exact hk.elim
    |some l=>
     rw [hres]at hk
     obtain⟨l',h1,h2⟩:=a4m (w0:=w) (bor:= []) hs' hres
     have hrun:=a2X (X:=cx X w []) hP.tt hlv.rel h1
     match l,l',h2,hk,hrun with
     | [s], [s'],h2,hk,hrun=>exact main hk h2.1 hrun
     | [], [],h2,hk,hrun=>exact main (s:= .tup []) hk (by simp only [i0];exact .inl ⟨[],rfl,trivial⟩) (by simpa [den,a8s,cx]using hrun)
     |x::y::l,x'::y'::l',h2,hk,hrun=>exact main (s:= .tup (x'::y'::l')) hk (by simp only [i0];exact .inl ⟨_,rfl,h2⟩) (by simpa [den,a8s,cx]using hrun)
     | [],_::_,h2,_,_=>simp [d8]at h2
     | [_], [],h2,_,_=>simp [d8]at h2
     | [_],_::_::_,h2,_,_=>simp [d8]at h2
     |_::_::_, [],h2,_,_=>simp [d8]at h2
     |_::_::_, [_],h2,_,_=>simp [d8]at h2
   cases e with
   |normal=>exact fin hk
   |ret=>exact fin hk
   |exit id=>exact hk.elim
   |goto l=>exact hp.elim
   |panic c=>exact hp.elim
   |outgrown=>exact hp.elim
end Go.Sx
namespace Go.Sx
open Go Go.RowKit
abbrev DI (z:Int):D:= .v (.int .i64 z)
abbrev DB (b:Bool):D:= .v (.bool b)
abbrev lD {α:Type} (z:Nat) (x:List α) (c:α→List D):D:= .lst z x.length (x.flatMap c)
abbrev rE {α:Type} (z:Nat) (x:List α) (c:α→List D) (ty:TypeId):E:= .row z x.length (x.flatMap c) ty
theorem VIf.b {α:Type} {b:Bool} {p q:Prop} {x y r:Option α} (h1:b=true→x=r→p) (h2:b=false→y=r→q):(if b=true then x else y)=r→VIf b p q:=by
 intro h
 cases b with
 |true=>exact h1 rfl h
 |false=>exact h2 rfl h
theorem tR {T:List (Nat×D)} {d:Nat} {x:D} (h:w8 T d=some x):∃y,w8 T d=some y∧leD y x:=⟨x,h,c7Y x⟩
theorem a9H.refl:∀(l:List D),a9H l l
 | []=>trivial
 |x::l=>by
  have h:=a9H.refl l
  cases x<;>simp only [a9H]<;>first|exact h|exact⟨c7Y _,h⟩
theorem hR {H:Hy} {k:Nat} {cs:List D} {ty:TypeId} (h:o4 H k=some (.blk cs ty)):∃cs0,o4 H k=some (.blk cs0 ty)∧a9H cs0 cs:=⟨cs,h,a9H.refl cs⟩
theorem hW {H:Hy} {k z m m0:Nat} {l:List D} {ty:TypeId} (h:o4 H k=some (.row z m0 l ty)) (hm:m0=m:=by first|rfl|simp):∃m0 l0,o4 H k=some (.row z m0 l0 ty)∧m0=m∧l0=l:=⟨m0,l,h,hm,rfl⟩
theorem a5u.det {P:Program} {f:FuncId} {args:List D} {st:Sy} {K:Sy→D→Prop} {r:D} (h:l8 P f args fun x=>x=r) (hk:K st r):a5u P f args st K:=⟨⟨_,h,fun x hx=>hx▸hk⟩⟩
theorem a5u.any {P:Program} {f:FuncId} {args:List D} {st:Sy} {K:Sy→D→Prop} {Q:D→Prop} (h:l8 P f args Q) (hk:∀r,Q r→K st r):a5u P f args st K:=⟨⟨_,h,hk⟩⟩
theorem a8V.det {P:Program} {seq:Bool} {f:FuncId} {fa:List D} {st st':Sy} {K:Sy→D→Prop} {r:D} (h:l8 P f fa fun x=>x=r) (hk:match a4S r,seq with
 |true,_=>K st r
 |false,true=>K st' r
 |false,false=>False):a8V P seq f fa st st' K:=⟨⟨_,h,fun x hx=>hx▸hk⟩⟩
theorem j2.pure {r:D}:j2 r fun x=>x=r:=⟨⟨r,c7Y r,rfl⟩⟩
theorem j2.eq {r s:D} (h:r=s):j2 r fun x=>x=s:=⟨⟨r,c7Y r,h⟩⟩
theorem c8a {r s:D} (h:leD r s):j2 r fun x=>x=s:=⟨⟨s,h,rfl⟩⟩
theorem z7.of {body:Sy→(Exit→Sy→Prop)→Prop} {st:Sy} {K:Exit→Sy→Prop} {α:Type} (f:α→Sy) (inv:α→Prop) (μ:α→Nat) (x0:α) (h0:i4 st (f x0)) (hi:inv x0)
 (h:∀x,inv x→body (f x) fun e st2=>match e with
  | .normal=>∃y,i4 st2 (f y)∧inv y∧μ y<μ x
  |e=>K e st2):z7 body st K:=⟨⟨α,f,inv,μ,⟨x0,h0,hi⟩,h⟩⟩
theorem i4.of {st st':Sy} (n:Nat) (h1:b1g n st'=true) (h2:b1v n st.T st'.T) (h3:b3g n st.H st'.H):i4 st st':=⟨[],st,rfl,⟨n,h1,h2,h3⟩⟩
theorem i4.fz {st st1 st':Sy} (ks:List Nat) (hf:a5l ks st []=some (st1, [])) (n:Nat) (h1:b1g n st'=true) (h2:b1v n st1.T st'.T) (h3:b3g n st1.H st'.H):i4 st st':=⟨ks,st1,hf,⟨n,h1,h2,h3⟩⟩
theorem c2d.of {X:Cy} (hP:POK X.P X.tt) {c:Code} {st0:Sy} {K:Exit→Sy→Prop} (h:∀sv,U8 { X with sv:=sv} c st0 K):c2d X c st0 K:=
 fun _ _ _ sv st a w Q hA hs hr hQ=>a4j (X:= { X with sv:=sv}) hA hP c st st0 a w K Q (h sv) hs hr hQ
theorem O9.ofP {X:Cy} {f:FuncId} {args:List D} {dst:Option Nat} {st:Sy} {K:Sy→Prop} (hP:POK X.P X.tt) (st0 st1:Sy) (pl:List (Nat×PT)) (ln un inl:List Nat) {fn:Func} {c:Code} (hf:X.P.funcs[f]?=some fn) (hb:fn.body=some c)
 (hg:Nat.ble fn.ntmps 1000000=true) (hl:Nat.ble args.length fn.ntmps=true) (hs:i4 ⟨a2H 0 args++a0u X.nt st.T,st.H,st.nk⟩ st0)
 (hbody:∀sv,U8 ⟨X.P,X.tt,fn.ntmps,pl,ln,un, [],inl,sv⟩ c st0 (c0x X ⟨X.P,X.tt,fn.ntmps,pl,ln,un, [],inl, []⟩ fn.results.toList dst fun sy=>i4 sy st1)) (hk:K st1):O9 X f args dst st K:=
 ⟨fn.ntmps,pl,ln,un,inl,fn,c,st0,st1,⟨hf,hb,rfl,hg,hl⟩,hs, .of (X:=⟨X.P,X.tt,fn.ntmps,pl,ln,un, [],inl, []⟩) hP hbody,hk⟩
end Go.Sx
namespace Go.Sx
open Go Go.RowKit
def gd {α:Type} (p:Prop) [Decidable p] (k:Option α):Option α:=if p then k else none
theorem n9 {α:Type} {p:Prop} [Decidable p] {k:Option α} {r:α} (h:gd p k=some r):p∧k=some r:=by
 unfold gd at h
 split at h
 · rename_i hp;exact⟨hp,h⟩
 · cases h
theorem b9 {α β:Type} {o:Option α} {f:α→Option β} {r:β} (h:Option.bind o f=some r):∃x,o=some x∧f x=some r:=by
 cases o with
 |none=>cases h
 |some x=>exact⟨x,rfl,h⟩
theorem b8U {α:Type} {b:Bool} {x y z:α} (h:b=true) (hm:(if b=true then x else y)=z):x=z:=by rw [if_pos h]at hm;exact hm
theorem b9E {α:Type} {b:Bool} {x y z:α} (h:b=false) (hm:(if b=true then x else y)=z):y=z:=by rw [if_neg (by rw [h];exact Bool.false_ne_true)]at hm;exact hm
def a0I {S E:Type} (body:S→Option (Sum S E)):Nat→S→Option E
 |0,_=>none
 |n+1,s=>match body s with
  |none=>none
  |some (.inl s')=>a0I body n s'
  |some (.inr e)=>some e
def a3k:Nat:=18446744073709551616
def s9 {S E:Type} (body:S→Option (Sum S E)) (s:S):Option E:=a0I body a3k s
theorem b9G {S E:Type} {body:S→Option (Sum S E)} {n:Nat} {s:S} {e:E} (h:a0I body n s=some e):∃m b,n=m+1∧body s=some b∧(match b with| .inl s'=>a0I body m s'=some e| .inr e'=>e'=e):=by
 cases n with
 |zero=>cases h
 |succ n=>
  simp only [a0I]at h
  cases hb:body s with
  |none=>rw [hb]at h;cases h
  |some b=>
   rw [hb]at h
   refine⟨n,b,rfl,rfl, ?_⟩
   cases b with
   |inl s'=>exact h
   |inr e'=>cases h;rfl
theorem c8b {S E:Type} {body:Sy→(Exit→Sy→Prop)→Prop} {st:Sy} {K:Exit→Sy→Prop} (L:S→Option (Sum S E)) (f:S→Sy) (s0:S) {ev:E} (h0:i4 st (f s0)) (he:s9 L s0=some ev)
 (h:∀n s b,L s=some b→(match b with| .inl s'=>a0I L n s'=some ev| .inr e'=>e'=ev)→body (f s) fun x st2=>match x with
  | .normal=>∃y:Nat×S,i4 st2 (f y.2)∧a0I L y.1 y.2=some ev∧y.1<n+1
  |x=>K x st2):z7 body st K:=by
 refine z7.of (fun x:Nat×S=>f x.2) (fun x=>a0I L x.1 x.2=some ev) (fun x=>x.1) (a3k,s0) h0 he ?_
 rintro⟨n,s⟩ hi
 obtain⟨m,b,rfl,hb,hc⟩:=b9G hi
 exact h m s b hb hc
def idx {α:Type} (l:List α) (i:Int):Option α:=match decide (0≤i)with|true=>l[i.toNat]?|false=>none
theorem a9a {α:Type} {l:List α} {i:Int} {x:α} (h:idx l i=some x):0≤i∧l[i.toNat]?=some x:=by
 unfold idx at h
 split at h
 · rename_i hd;exact⟨of_decide_eq_true hd,h⟩
 · cases h
theorem a2p {α:Type} {c:α→List D} {z:Nat} (hc:∀x,(c x).length=z) (l:List α):(l.flatMap c).length=l.length*z:=by
 induction l with
 |nil=>simp
 |cons x l ih=>simp [ih,hc,Nat.add_mul,Nat.add_comm]
theorem b4s {α:Type} {c:α→List D} {z:Nat} (hc:∀x,(c x).length=z):∀(l:List α) (i:Nat) {x:α},l[i]?=some x→el (l.flatMap c) z i=c x
 | [],i,x,h=>by simp at h
 |y::l,0,x,h=>by
  simp at h;subst h
  simp only [el,Nat.zero_mul,List.drop_zero,List.flatMap_cons]
  rw [List.take_append_of_le_length (by rw [hc];exact Nat.le_refl _),List.take_of_length_le (by rw [hc];exact Nat.le_refl _)]
 |y::l,i+1,x,h=>by
  simp at h
  have ih:=b4s hc l i h
  simp only [el,List.flatMap_cons]at ih⊢
  have:(i+1)*z=(c y).length+i*z:=by rw [hc,Nat.add_mul];omega
  rw [this,List.drop_append,List.drop_eq_nil_of_le (by omega)]
  simpa using ih
theorem q8 {α:Type} {c:α→List D} {z:Nat} {l:List α} {i:Int} {x:α} (hc:∀x,(c x).length=z) (h:idx l i=some x):el (l.flatMap c) z i.toNat=c x∧0≤i∧i<l.length:=by
 obtain⟨h1,h2⟩:=a9a h
 have:=(List.getElem?_eq_some_iff.1 h2).1
 exact⟨b4s hc l _ h2,h1,by omega⟩
theorem E1 {α:Type} {l:List α} {i:Int} {x:α} (h:idx l i=some x):0≤i∧i<l.length:=by
 obtain⟨h1,h2⟩:=a9a h
 have:=(List.getElem?_eq_some_iff.1 h2).1
 exact⟨h1,by omega⟩
theorem A5 {α:Type} {c:α→List D} {z:Nat} {l:List α} {i:Int} {x:α} (hc:∀x,(c x).length=z) (h:idx l i=some x):el (l.flatMap c) z i.toNat=c x∧i.toNat<l.length:=by
 obtain⟨h1,h2⟩:=a9a h
 exact⟨b4s hc l _ h2,(List.getElem?_eq_some_iff.1 h2).1⟩
theorem a5Q {α:Type} {c:α→List D} {z n:Nat} {l:List α} {i:Int} {x:α} (hc:∀x,(c x).length=z) (h:idx l i=some x) (hn:l.length=n):el (l.flatMap c) z i.toNat=c x∧i.toNat<n:=hn▸A5 hc h
theorem b5D {α:Type} {c:α→List D} {z:Nat} (hc:∀x,(c x).length=z):∀(l:List α) (i:Nat) (x:α),i<l.length→a9t (l.flatMap c) z i (c x)=(l.set i x).flatMap c
 | [],i,x,h=>by simp at h
 |y::l,0,x,h=>by
  simp only [a9t,Nat.zero_mul,List.take_zero,List.nil_append,Nat.zero_add,List.flatMap_cons,List.set_cons_zero]
  rw [List.drop_append,List.drop_eq_nil_of_le (by rw [hc];exact Nat.le_refl _),hc];simp
 |y::l,i+1,x,h=>by
  simp at h
  have ih:=b5D hc l i x h
  simp only [a9t,List.flatMap_cons,List.set_cons_succ]at ih⊢
  have e1:(i+1)*z=(c y).length+i*z:=by rw [hc,Nat.add_mul];omega
  have e2:(i+1)*z+z=(c y).length+(i*z+z):=by rw [hc,Nat.add_mul];omega
  rw [e1,←hc y,Nat.add_assoc,List.take_append,List.drop_append,List.take_of_length_le (by omega),List.drop_eq_nil_of_le (by omega)]
  rw [hc,←ih];simp [List.append_assoc]
theorem I5 {α:Type} {c:α→List D} {z:Nat} {l:List α} {i:Int} {x y:α} (hc:∀x,(c x).length=z) (h:idx l i=some x):a9t (l.flatMap c) z i.toNat (c y)=(l.set i.toNat y).flatMap c:=
 b5D hc l _ y (List.getElem?_eq_some_iff.1 (a9a h).2).1
theorem O1 {α:Type} {c:α→List D} {l r:List α}:l.flatMap c++r.flatMap c=(l++r).flatMap c∧l.length+r.length=(l++r).length:=by simp
theorem b3I {α:Type} {c:α→List D} {z:Nat} (hc:∀x,(c x).length=z):∀(n:Nat) (l:List α),(l.flatMap c).drop (n*z)=(l.drop n).flatMap c
 |0,l=>by simp
 |n+1, []=>by simp
 |n+1,x::l=>by
  have e1:(n+1)*z=(c x).length+n*z:=by rw [hc,Nat.add_mul];omega
  rw [List.flatMap_cons,e1,List.drop_append,List.drop_eq_nil_of_le (by omega)]
  simpa using b3I hc n l
theorem a9w {α:Type} {c:α→List D} {z:Nat} (hc:∀x,(c x).length=z):∀(n:Nat) (l:List α),(l.flatMap c).take (n*z)=(l.take n).flatMap c
 |0,l=>by simp
 |n+1, []=>by simp
 |n+1,x::l=>by
  have e1:(n+1)*z=(c x).length+n*z:=by rw [hc,Nat.add_mul];omega
  rw [List.flatMap_cons,e1,List.take_append,List.take_of_length_le (by omega)]
  simpa using a9w hc n l
def sub {α:Type} (l:List α) (a b:Nat):List α:=(l.drop a).take (b-a)
theorem b5M {α:Type} {c:α→List D} {z:Nat} (hc:∀x,(c x).length=z) (a b:Nat) (l:List α):((l.flatMap c).drop (a*z)).take ((b-a)*z)=(sub l a b).flatMap c:=by
 rw [b3I hc,a9w hc];rfl
theorem b8z {α:Type} {l:List α} {a b:Nat} (h:b≤l.length):(sub l a b).length=b-a:=by simp [sub];omega
theorem leD.eq {x y:D} (h:x=y):leD x y:=h▸c7Y x
theorem a3L.eq {x y:List D} (h:x=y):a3L x y:=h▸a3L.refl x
theorem c7Z {z:Nat}:leD (.v (.slice none 0 0)) (.lst z 0 []):=by simp only [leD];exact .inr ⟨trivial,z,rfl⟩
abbrev cI (x:Int):List D:= [DI x]
abbrev cB (x:Bool):List D:= [DB x]
def c5W {α:Type} (c:α→List D):Option α→D
 |none=> .v (.pointer none)
 |some x=> .ptr (c x) 0
def b2G {α β:Type} (o:Option α) (a:β) (f:α→β):β:=match o with|none=>a|some x=>f x
theorem a9i {α β:Type} {a r:β} {f:α→β} (h:b2G none a f=r):a=r:=h
theorem a8G {α β:Type} {x:α} {a r:β} {f:α→β} (h:b2G (some x) a f=r):f x=r:=h
end Go.Sx
namespace Go.Sx
open Go Go.RowKit
theorem a6L (l:List Value) (j:Nat):(vs l)[j]?=(l[j]?).map .v:=by
 induction l generalizing j with
 |nil=>simp [vs]
 |cons x l ih=>cases j<;>simp [vs,ih]
structure c5J (e:E) (z' z n:Nat) (l:List D) (ty:TypeId):Prop where
 ex:e= .row z n l ty∧z'=z
def b1m (st:Sy) (z n:Nat) (l:List D) (ty:TypeId) (r:D):Prop:=
 match r with
 | .row k z'=>match o4 st.H k with
  |some e=>c5J e z' z n l ty
  |none=>False
 | .v (.slice none 0 0)=>n=0∧l= []
 |_=>False
def b5x (X:Cy) (rs:List ResultVar) (z n:Nat) (l:List D) (ty:TypeId) (e:Exit) (st:Sy):Prop:=
 match e with
 | .normal=>match a1x X st rs with
  |some [s]=>b1m st z n l ty s
  |_=>False
 | .ret=>match a1x X st rs with
  |some [s]=>b1m st z n l ty s
  |_=>False
 |_=>False
section
variable {A : Nat → Prop} {X : Cy} {w0 : World} {bor : List Nat} {st : St} {sy : Sy} {a : Act} {w : World}
theorem c2m {z n:Nat} {l:List D} {ty:TypeId} {r:D} {s:SV} (h:b1m sy z n l ty r) (hs:Sim A st sy) (hr:Rel (cx X w0 bor) st a w) (hrel:i0 (okS A st) st.w (D7 st) r s):
 a8W (fun b=>(A b∧b<w.heap.size)∧b∉q9 (den st.H s)) w z n l ty (den st.H s)∧∀b,b∈q9 (den st.H s)→b∈bor∨w0.heap.size≤b:=by
 unfold b1m at h
 split at h
 · rename_i k z'
   split at h
   · rename_i e he
     obtain⟨rfl,rfl⟩:=h.ex
     simp only [i0]at hrel
     obtain⟨rfl,_⟩:=hrel
     obtain⟨e',hf',hre⟩:=hs.H _ _ he
     cases e' with
     |blk=>exact hre.elim
     |row v n1 xs z1 ty1=>
      obtain⟨rfl,rfl,rfl,hrep,hfl,hlen⟩:=hre
      have hdv:den st.H (.row k)=v:=by simp [den,o9,hf']
      rw [hdv]
      have hb:∀b,b∈q9 v→b∈bs st.H:=fun b hb=>D0.2 ⟨k,_,p0 hf',hb⟩
      refine⟨⟨xs,hr.cls.row hf',j3.mono (fun b hbk=> ?_) _ _ hrep,hfl,hlen⟩,fun b hbv=>hr.cls.lb b (hb b hbv)⟩
      have h2:=(a4T hr.cls) b hbk
      exact⟨⟨⟨hbk.1.2,h2.1.2.1⟩,fun hc=>hbk.2.2 b (hb b hc) rfl⟩,h2.2⟩
   · exact h.elim
 · obtain⟨rfl,rfl⟩:=h
   simp only [i0]at hrel
   obtain⟨rfl,_⟩:=hrel
   exact⟨⟨[],World.ownsRow_nil _ _ _ _,by simp [j3],rfl,by simp⟩,by simp [den,q9]⟩
 · exact h.elim
theorem b7V (hP:POK X.P X.tt) {fn:Func} {z n:Nat} {l:List D} {ty:TypeId} {e:Exit} {R:Ending→World→Prop} (hp:plain e) (h:b5x X fn.results.toList z n l ty e sy) (hs:Sim A st sy) (hr:Rel (cx X w0 bor) st a w)
 (hR:∀v,a8W (fun b=>(A b∧b<w.heap.size)∧b∉q9 v) w z n l ty v→(∀b,b∈q9 v→b∈bor∨w0.heap.size≤b)→R (.returned v) w) (h0:X.dfs= []):bodyPost X.P fn R e a w:=by
 have fin:(match a1x X sy fn.results.toList with
  |some [s]=>b1m sy z n l ty s
  |_=>False)→a.defers= []∧∃v,(results fn a.tmps).run X.P w= .ok v w∧R (.returned v) w:=by
  intro hk
  cases hres:a1x X sy fn.results.toList with
  |none=>rw [hres]at hk;exact hk.elim
  |some l0=>
   rw [hres]at hk
   obtain⟨l',h1,h2⟩:=a4m (w0:=w0) (bor:=bor) hs hres
   have hrun:=a2X (X:=cx X w0 bor) hP.tt hr h1
   match l0,l',h2,hk,hrun with
   | [s], [s'],h2,hk,hrun=>
    obtain⟨g1,g2⟩:=c2m hk hs hr h2.1
    exact⟨hr.dfs.trans h0,_,hrun,hR _ g1 g2⟩
   | [_], [],h2,_,_=>simp [d8]at h2
   | [_],_::_::_,h2,_,_=>simp [d8]at h2
 cases e with
 |normal=>exact fin h
 |ret=>exact fin h
 |exit id=>exact h.elim
 |goto l=>exact hp.elim
 |panic c=>exact hp.elim
 |outgrown=>exact hp.elim
end
theorem c4s {X:Cy} (hP:POK X.P X.tt) {f:FuncId} {fn:Func} {c:Code} (args:List D) {z n:Nat} {l:List D} {ty:TypeId} (hf:X.P.funcs[f]?=some fn) (hb:fn.body=some c) (hn:X.nt=fn.ntmps) (hl:args.length≤fn.ntmps)
 (h:U8 X c ⟨a2H 0 args, [],0⟩ (b5x X fn.results.toList z n l ty)) (h0:X.dfs= []:=by rfl) (hg:fn.ntmps≤R0:=by exact Nat.le_of_ble_eq_true rfl):b0x X.P f args z n l ty:=by
 intro ok w vl hrep hok
 have hA:∀b,(w.heap.size≤b∨b∈([]:List Nat))→(fun b=>b<w.heap.size→ok b) b:=fun b hb h=>by
  rcases hb with hb|hb
  · omega
  · cases hb
 refine calls_of_wp hf hb (a4j (A:=fun b=>b<w.heap.size→ok b) (w0:=w) (bor:= []) hA hP c ⟨a3Z 0 (vs vl), [],0,w,w.heap.size, []⟩ ⟨a2H 0 args, [],0⟩ _ _ _ _ h ?_ ?_ fun e st' sy' a' w' hp hk hs' hlv=> ?_)
 · refine⟨fun d x hx=> ?_,fun k e he=>by simp [o4]at he,rfl,fun j _=>a4l,fun _ _=>rfl⟩
   obtain⟨_,h2⟩:=a2P hx
   obtain⟨y,h3,h4⟩:=hrep.get h2
   right
   refine⟨.v y,a5o (Nat.zero_le _) ?_,Rep.rel _ _ (Rep.mono (fun b hb=>⟨⟨⟨.inl (hok b hb),fun _=>hb⟩,hok b hb,fun c hc=>by simp [bs]at hc⟩,rfl⟩) _ _ h4)⟩
   rw [a6L,h3];rfl
 · refine⟨by simp [cx,hn,←hrep.length];omega,fun d s hs=> ?_,h0.symm,Cls.nil (cx X w []) 0,Nat.le_refl _,by simp⟩
   obtain⟨_,h2⟩:=a2N (n:=0) hs
   simp only [Nat.sub_zero]at h2
   rw [a6L]at h2
   cases hv:vl[d]? with
   |none=>rw [hv]at h2;cases h2
   |some y=>
    rw [hv]at h2
    cases h2
    right
    have hlt:=(List.getElem?_eq_some_iff.1 hv).1
    rw [R9,if_pos (by have:=hrep.length;omega),Array.getElem?_append_left (by simpa using hlt)]
    simpa [den]using hv
 · refine b7V hP hp hk hs' hlv.rel (fun v hrow hbl=>⟨v,rfl,fun b hb=> ?_, ?_,hlv.fx.below⟩) h0
   · rcases hbl b hb with h|h
     · cases h
     · exact h
   · obtain⟨xs,h1,h2,h3,h4⟩:=hrow
     refine⟨xs,h1,j3.mono (fun b hbk=>⟨⟨?_,hbk.2⟩,rfl⟩) _ _ h2,h3,h4⟩
     by_cases hlt:b<w.heap.size
     · exact .inl (hbk.1.1 hlt)
     · exact .inr ⟨by omega,hbk.1.2⟩
def a2r:List D→List Nat
 | []=> []
 | .row k _::l=>k::a2r l
 |_::l=>a2r l
def b4k (H:Hy):Nat→List (Nat×Nat×List D×TypeId)→List D→List D→Prop
 |_,rows, [], []=>rows= []
 |i,(z,n,l,ty)::rows, .row j z'::cells, .row k z''::cs=>(j=i∧z'=z∧z''=z∧o4 H k=some (.row z n l ty))∧b4k H (i+1) rows cells cs
 |i,(z,n,l,ty)::rows, .row j z'::cells, .v (.slice none 0 0)::cs=>(j=i∧z'=z∧n=0∧l= [])∧b4k H (i+1) rows cells cs
 |i,rows,d::cells,c::cs=>(a0R c=true∧c=d)∧b4k H i rows cells cs
 |_,_,_,_=>False
def c0J (st:Sy) (rows:List (Nat×Nat×List D×TypeId)) (cells:List D):D→Prop
 | .agg cs=>ndB (a2r cs)=true∧b4k st.H 0 rows cells cs
 |_=>False
def c0R (X:Cy) (rs:List ResultVar) (rows:List (Nat×Nat×List D×TypeId)) (cells:List D) (e:Exit) (st:Sy):Prop:=
 match e with
 | .normal=>match a1x X st rs with
  |some [s]=>c0J st rows cells s
  |_=>False
 | .ret=>match a1x X st rs with
  |some [s]=>c0J st rows cells s
  |_=>False
 |_=>False
section
variable {A : Nat → Prop} {X : Cy} {w0 : World} {bor : List Nat} {st : St} {sy : Sy} {a : Act} {w : World}
theorem b1h (hs:Sim A st sy) (hr:Rel (cx X w0 bor) st a w):∀(cs:List D) (i:Nat) (rows:List (Nat×Nat×List D×TypeId)) (cells:List D) (ss:List SV),b4k sy.H i rows cells cs→d8 (okS A st) st.w (D7 st) cs ss→
 ∃rv:List Value,(∀b,b∈rv.flatMap q9→∃k e,k∈a2r cs∧i6 st.H k=some e∧b∈bsE e)∧((a2r cs).Nodup→(rv.flatMap q9).Nodup)∧a3p (fun b=>(A b∧b<w.heap.size)∧b∉bs st.H) w rows rv∧
  ∀pre:List Value,pre.length=i→Y5 (fun b=>(A b∧b<w.heap.size)∧b∉bs st.H) w (pre++rv) cells (j7 st.H ss)
 | [],i,rows,cells,ss,h,hrel=>by
  cases cells with
  |cons d cells=>simp [b4k]at h
  |nil=>
   simp only [b4k]at h
   subst h
   cases ss with
   |cons=>simp [d8]at hrel
   |nil=>exact⟨[],by simp,fun _=>by simp,trivial,fun _ _=>trivial⟩
 |c::cs,i,rows,cells,ss,h,hrel=>by
  cases ss with
  |nil=>simp [d8]at hrel
  |cons s ss=>
   simp only [d8]at hrel
   obtain⟨h1,h2⟩:=hrel
   unfold b4k at h
   split at h
   · rename_i heq;cases heq
   · rename_i z n l ty rows j z' cells k z'' cs' heq
     cases heq
     obtain⟨⟨rfl,rfl,rfl,hk⟩,h⟩:=h
     simp only [i0]at h1
     obtain⟨rfl,_⟩:=h1
     obtain⟨rv,g1,g2,g3,g4⟩:=b1h hs hr cs (j+1) rows cells ss h h2
     obtain⟨e',hf',hre⟩:=hs.H _ _ hk
     cases e' with
     |blk=>exact hre.elim
     |row v n1 xs z1 ty1=>
      obtain⟨rfl,rfl,rfl,hrep,hfl,hlen⟩:=hre
      have hdv:den st.H (.row k)=v:=by simp [den,o9,hf']
      refine⟨v::rv,fun b hb=> ?_,fun hn=> ?_,⟨⟨xs,hr.cls.row hf',j3.mono (fun b hbk=> ?_) _ _ hrep,hfl,hlen⟩,g3⟩,fun pre hp=> ?_⟩
      · simp only [List.flatMap_cons,List.mem_append]at hb
        rcases hb with hb|hb
        · exact⟨k,_,by simp [a2r],hf',hb⟩
        · obtain⟨k',e,q1,q2,q3⟩:=g1 b hb
          exact⟨k',e,by simp [a2r,q1],q2,q3⟩
      · simp only [a2r,List.nodup_cons]at hn
        simp only [List.flatMap_cons,List.nodup_append]
        refine⟨a5M v,g2 hn.2,fun b hb b' hb' heq=> ?_⟩
        subst heq
        obtain⟨k',e,q1,q2,q3⟩:=g1 b hb'
        have hne:k≠k':=fun e=>hn.1 (e▸q1)
        exact a4x hr.cls.nd hr.cls.keys (p0 hf') (p0 q2) hne hb q3
      · have h3:=(a4T hr.cls) b hbk
        exact⟨⟨⟨hbk.1.2,h3.1.2.1⟩,fun hc=>hbk.2.2 b hc rfl⟩,h3.2⟩
      · have h5:=g4 (pre++ [v]) (by simp [hp])
        rw [List.append_assoc,List.singleton_append]at h5
        simp only [j7,hdv,Y5]
        exact⟨by rw [List.getElem?_append_right (by omega),←hp];simp,h5⟩
   · rename_i z n l ty rows j z' cells cs' heq
     cases heq
     obtain⟨⟨rfl,rfl,rfl,rfl⟩,h⟩:=h
     simp only [i0]at h1
     obtain⟨rfl,_⟩:=h1
     obtain⟨rv,g1,g2,g3,g4⟩:=b1h hs hr cs (j+1) rows cells ss h h2
     refine⟨.slice none 0 0::rv,fun b hb=> ?_,fun hn=> ?_,⟨⟨[],World.ownsRow_nil _ _ _ _,by simp [j3],rfl,by simp⟩,g3⟩,fun pre hp=> ?_⟩
     · simp only [List.flatMap_cons,q9,List.nil_append]at hb
       exact g1 b hb
     · simpa [q9]using g2 hn
     · have h5:=g4 (pre++ [.slice none 0 0]) (by simp [hp])
       rw [List.append_assoc,List.singleton_append]at h5
       simp only [j7,den,Y5]
       exact⟨by rw [List.getElem?_append_right (by omega),←hp];simp,h5⟩
   · rename_i heq
     cases heq
     obtain⟨⟨hcl,rfl⟩,h⟩:=h
     obtain⟨rv,g1,g2,g3,g4⟩:=b1h hs hr cs _ _ _ ss h h2
     have hkeys:a2r (c::cs)=a2r cs:=by
      cases c<;>first|rfl|simp [a0R]at hcl
     have hrc:=Rep.mono (w':=w) (ok':=fun b=>(A b∧b<w.heap.size)∧b∉bs st.H) (fun b hb=>by
      have h3:=(a4T hr.cls) b hb
      exact⟨⟨⟨hb.1.2,h3.1.2.1⟩,fun hc=>hb.2.2 b hc rfl⟩,h3.2⟩) _ _ (a3U (H:=st.H) _ _ h1 hcl)
     refine⟨rv,by rw [hkeys];exact g1,by rw [hkeys];exact g2,g3,fun pre hp=> ?_⟩
     have h5:=g4 pre hp
     cases c<;>first|(simp only [j7,Y5];exact⟨hrc,h5⟩)|simp [a0R]at hcl
   · exact h.elim
theorem c5e (hP:POK X.P X.tt) {fn:Func} {rows:List (Nat×Nat×List D×TypeId)} {cells:List D} {e:Exit} {R:Ending→World→Prop} (hp:plain e) (h:c0R X fn.results.toList rows cells e sy) (hs:Sim A st sy) (hr:Rel (cx X w0 bor) st a w)
 (hR:∀(av rv:List Value),(∀b,b∈rv.flatMap q9→b∈bs st.H)→(rv.flatMap q9).Nodup→a3p (fun b=>(A b∧b<w.heap.size)∧b∉bs st.H) w rows rv→Y5 (fun b=>(A b∧b<w.heap.size)∧b∉bs st.H) w rv cells av→R (.returned (.agg av.toArray)) w) (h0:X.dfs= []):bodyPost X.P fn R e a w:=by
 have fin:(match a1x X sy fn.results.toList with
  |some [s]=>c0J sy rows cells s
  |_=>False)→a.defers= []∧∃v,(results fn a.tmps).run X.P w= .ok v w∧R (.returned v) w:=by
  intro hk
  cases hres:a1x X sy fn.results.toList with
  |none=>rw [hres]at hk;exact hk.elim
  |some l0=>
   rw [hres]at hk
   obtain⟨l',h1,h2⟩:=a4m (w0:=w0) (bor:=bor) hs hres
   have hrun:=a2X (X:=cx X w0 bor) hP.tt hr h1
   match l0,l',h2,hk,hrun with
   | [s], [s'],h2,hk,hrun=>
    cases s with
    |agg cs=>
     obtain⟨hn,hk⟩:ndB (a2r cs)=true∧b4k sy.H 0 rows cells cs:=hk
     have h3:=h2.1
     simp only [i0]at h3
     obtain⟨ss,hag,h3,_⟩:=h3
     obtain⟨rv,g1,g2,g3,g4⟩:=b1h hs hr cs 0 rows cells ss hk h3
     have hd:den st.H s'= .agg (j7 st.H ss).toArray:=b1A hag
     refine⟨hr.dfs.trans h0,_,hrun, ?_⟩
     rw [show a8s st.H [s']=den st.H s' from rfl,hd]
     exact hR _ rv (fun b hb=>by obtain⟨k,e,_,q2,q3⟩:=g1 b hb;exact D0.2 ⟨k,e,p0 q2,q3⟩) (g2 (b3b hn)) g3 (g4 [] rfl)
    |_=>exact hk.elim
   | [_], [],h2,_,_=>simp [d8]at h2
   | [_],_::_::_,h2,_,_=>simp [d8]at h2
 cases e with
 |normal=>exact fin h
 |ret=>exact fin h
 |exit id=>exact h.elim
 |goto l=>exact hp.elim
 |panic c=>exact hp.elim
 |outgrown=>exact hp.elim
end
theorem Y5.mono {ok ok':Nat→Prop} {w:World} {rv:List Value} (hm:∀b,ok b→ok' b):∀(cells:List D) (a:List Value),Y5 ok w rv cells a→Y5 ok' w rv cells a
 | [], [],_=>trivial
 | [],_::_,h=>by simp [Y5]at h
 |d::cells, [],h=>by cases d<;>simp [Y5]at h
 |d::cells,y::a,h=>by
  cases d<;>simp only [Y5]at h⊢
  case row=>exact⟨h.1,Y5.mono hm cells a h.2⟩
  all_goals exact⟨Rep.mono (fun b hb=>⟨hm b hb,rfl⟩) _ _ h.1,Y5.mono hm cells a h.2⟩
theorem a3p.mono {ok ok':Nat→Prop} {w:World} (hm:∀b,ok b→ok' b):∀(rows:List (Nat×Nat×List D×TypeId)) (rv:List Value),a3p ok w rows rv→a3p ok' w rows rv
 | [], [],_=>trivial
 | [],_::_,h=>by simp [a3p]at h
 |_::_, [],h=>by simp [a3p]at h
 |(z,n,l,ty)::rows,v::rv,h=>by
  simp only [a3p]at h⊢
  obtain⟨⟨xs,h1,h2,h3⟩,h4⟩:=h
  exact⟨⟨xs,h1,j3.mono (fun b hb=>⟨hm b hb,rfl⟩) _ _ h2,h3⟩,a3p.mono hm rows rv h4⟩
theorem c4t {X:Cy} (hP:POK X.P X.tt) {f:FuncId} {fn:Func} {c:Code} (args:List D) {rows:List (Nat×Nat×List D×TypeId)} {cells:List D} (hf:X.P.funcs[f]?=some fn) (hb:fn.body=some c) (hn:X.nt=fn.ntmps) (hl:args.length≤fn.ntmps) (hfl:D3 cells=true)
 (h:U8 X c ⟨a2H 0 args, [],0⟩ (c0R X fn.results.toList rows cells)) (h0:X.dfs= []:=by rfl) (hg:fn.ntmps≤R0:=by exact Nat.le_of_ble_eq_true rfl):b8v X.P f args rows cells:=by
 refine⟨hfl,fun ok w vl hrep hok=> ?_⟩
 have hA:∀b,(w.heap.size≤b∨b∈([]:List Nat))→(fun b=>b<w.heap.size→ok b) b:=fun b hb h=>by
  rcases hb with hb|hb
  · omega
  · cases hb
 refine calls_of_wp hf hb (a4j (A:=fun b=>b<w.heap.size→ok b) (w0:=w) (bor:= []) hA hP c ⟨a3Z 0 (vs vl), [],0,w,w.heap.size, []⟩ ⟨a2H 0 args, [],0⟩ _ _ _ _ h ?_ ?_ fun e st' sy' a' w' hp hk hs' hlv=> ?_)
 · refine⟨fun d x hx=> ?_,fun k e he=>by simp [o4]at he,rfl,fun j _=>a4l,fun _ _=>rfl⟩
   obtain⟨_,h2⟩:=a2P hx
   obtain⟨y,h3,h4⟩:=hrep.get h2
   right
   refine⟨.v y,a5o (Nat.zero_le _) ?_,Rep.rel _ _ (Rep.mono (fun b hb=>⟨⟨⟨.inl (hok b hb),fun _=>hb⟩,hok b hb,fun c hc=>by simp [bs]at hc⟩,rfl⟩) _ _ h4)⟩
   rw [a6L,h3];rfl
 · refine⟨by simp [cx,hn,←hrep.length];omega,fun d s hs=> ?_,h0.symm,Cls.nil (cx X w []) 0,Nat.le_refl _,by simp⟩
   obtain⟨_,h2⟩:=a2N (n:=0) hs
   simp only [Nat.sub_zero]at h2
   rw [a6L]at h2
   cases hv:vl[d]? with
   |none=>rw [hv]at h2;cases h2
   |some y=>
    rw [hv]at h2
    cases h2
    right
    have hlt:=(List.getElem?_eq_some_iff.1 hv).1
    rw [R9,if_pos (by have:=hrep.length;omega),Array.getElem?_append_left (by simpa using hlt)]
    simpa [den]using hv
 · refine c5e hP hp hk hs' hlv.rel (fun av rv hrb hnd hrows hcells=> ?_) h0
   have hbs:∀b,b∈rv.flatMap q9→w.heap.size≤b∧b<w'.heap.size:=fun b hb=>by
    have h1:=hrb b hb
    rcases hlv.rel.cls.lb b h1 with h|h
    · cases h
    · exact⟨h,hlv.rel.cls.lt_size h1⟩
   have hmono:∀b,((fun b=>b<w.heap.size→ok b) b∧b<w'.heap.size)∧b∉bs st'.H→(ok b∨(w.heap.size≤b∧b<w'.heap.size))∧b∉rv.flatMap q9:=fun b hb1=>by
    refine⟨?_,fun hc=>hb1.2 (hrb b hc)⟩
    by_cases hlt:b<w.heap.size
    · exact .inl (hb1.1.1 hlt)
    · exact .inr ⟨by omega,hb1.1.2⟩
   exact⟨av,rv,rfl,hbs,hnd,hrows.mono hmono,hcells.mono hmono,hlv.fx.below⟩
theorem b6Y {X:Cy} {ok:Nat→Prop} {w:World} {v:Value} {vl:List Value} {z n:Nat} {l:List D} {ty:TypeId} {args:List D} {xs:List Value} {fn:Func} (hn:X.nt=fn.ntmps) (hl:args.length+1≤fn.ntmps)
 (hown:w.ownsRow 0 ty z v n xs) (hrl:j3 ok w l xs) (hfl:D3 l=true) (hlen:l.length=n*z) (hnok:∀b,b∈q9 v→¬ok b) (hrep:j3 ok w args vl) (hok:∀b,ok b→b<w.heap.size) (h0:X.dfs= []) (hg:fn.ntmps≤R0):
 Sim (fun b=>b<w.heap.size→ok b∨b∈q9 v) ⟨a3Z 0 (.row 0::vs vl), [(0, .row v n xs z ty)],1,w,w.heap.size, []⟩ ⟨a2H 0 (.row 0 z::args), [(0, .row z n l ty)],1⟩∧
 Rel (cx X w (q9 v)) ⟨a3Z 0 (.row 0::vs vl), [(0, .row v n xs z ty)],1,w,w.heap.size, []⟩ { tmps:=((v::vl).toArray++Array.replicate (fn.ntmps-(v::vl).toArray.size) undef),defers:= []} w:=by
 have hbs:bs [(0,Ent.row v n xs z ty)]=q9 v:=by simp [bs,bsE]
 have hoks:∀b,ok b→okS (fun b=>b<w.heap.size→ok b∨b∈q9 v) ⟨a3Z 0 (.row 0::vs vl), [(0, .row v n xs z ty)],1,w,w.heap.size, []⟩ b∧w.heap[b]?=w.heap[b]?:=fun b hb=>
  ⟨⟨⟨.inl (hok b hb),fun _=> .inl hb⟩,hok b hb,fun c hc e=>by simp only [hbs]at hc;exact hnok c hc (e▸hb)⟩,rfl⟩
 constructor
 · refine⟨fun d x hx=> ?_,fun k e he=> ?_,rfl,fun j hj=> ?_,fun j hj=>rfl⟩
   · obtain⟨_,h2⟩:=a2P hx
     simp only [Nat.sub_zero]at h2
     right
     cases d with
     |zero=>
      simp at h2;subst h2
      refine⟨.row 0,rfl, ?_⟩
      simp only [i0]
      exact⟨trivial,by simp only;omega,fun _=>⟨v,n,xs,z,ty,rfl⟩⟩
     |succ d=>
      simp at h2
      obtain⟨y,h3,h4⟩:=hrep.get h2
      refine⟨.v y,a5o (Nat.zero_le _) ?_,Rep.rel _ _ (Rep.mono hoks _ _ h4)⟩
      simp [a6L,h3]
   · simp only [o4]at he
     cases hb:Nat.beq 0 k with
     |false=>rw [hb]at he;cases he
     |true=>
      rw [hb]at he;cases he
      have:=B9 hb;subst this
      exact⟨_,rfl,by exact⟨rfl,rfl,rfl,j3.mono hoks _ _ hrl,hfl,hlen⟩⟩
   · simp only at hj
     have hb:Nat.beq 0 j=false:=a0c (by omega)
     simp only [a3Z,B0,ment,hb]
     exact a4l
 · refine⟨by simp [cx,hn,←hrep.length];omega,fun d s hs=> ?_,h0.symm, ?_,Nat.le_refl _,by simp⟩
   · obtain⟨_,h2⟩:=a2N (n:=0) hs
     simp only [Nat.sub_zero]at h2
     right
     cases d with
     |zero=>
      simp at h2;subst h2
      show R9 _ _ 0=some v
      rw [R9,if_pos (by decide),Array.getElem?_append_left (by simp)];simp
     |succ d=>
      simp only [List.getElem?_cons_succ,a6L]at h2
      cases hv:vl[d]? with
      |none=>rw [hv]at h2;cases h2
      |some y=>
       rw [hv]at h2
       cases h2
       have hlt:=(List.getElem?_eq_some_iff.1 hv).1
       rw [R9,if_pos (by have:=hrep.length;omega),Array.getElem?_append_left (by simp;omega)]
       simpa [den]using hv
   · refine⟨Fx.refl _ _,Fx.refl _ _,fun k e hm=> ?_,by rw [hbs];exact a5M v,fun b hb=> ?_,by simp,fun k e hm=> ?_⟩
     · simp at hm;obtain⟨rfl,rfl⟩:=hm;exact hown
     · rw [hbs]at hb;exact .inl hb
     · simp at hm;obtain⟨rfl,rfl⟩:=hm;exact Nat.zero_lt_one
end Go.Sx
namespace Go.Sx
open Go Go.RowKit
def b8C (X:Cy):Nat→Code→Sy→(Exit→Sy→Prop)→(Sy→Prop)→Prop
 |0,_,st,_,KT=>KT st
 |n+1, .seq a b,st,K,KT=>U8 X a st fun e st'=>match e with
  | .normal=>b8C X n b st' K KT
  |e=>K e st'
 |_,_,_,_,_=>False
def b5l:Nat→Code→Code
 |0,c=>c
 |n+1, .seq _ b=>b5l n b
 |_,c=>c
section
variable {A : Nat → Prop} {X : Cy} {w0 : World} {bor : List Nat} {Q : Exit → Act → World → Prop}
theorem b5A (hA:∀b,(w0.heap.size≤b∨b∈bor)→A b) (hP:POK X.P X.tt):∀(n:Nat) (c:Code) (st:St) (sy:Sy) (a:Act) (w:World) (K:Exit→Sy→Prop) (KT:Sy→Prop),b8C X n c sy K KT→Sim A st sy→Rel (cx X w0 bor) st a w→
 (∀e st' sy' a' w',plain e→K e sy'→Sim A st' sy'→Lv (cx X w0 bor) st.H w st' a' w'→Q e a' w')→
 (∀st' sy' a' w',KT sy'→Sim A st' sy'→Lv (cx X w0 bor) st.H w st' a' w'→(b5l n c).wp X.P Q a' w')→c.wp X.P Q a w
 |0,c,st,sy,a,w,K,KT,h,hs,hr,_,hT=>hT st sy a w h hs (Lv.refl hr)
 |n+1,c,st,sy,a,w,K,KT,h,hs,hr,hQ,hT=>by
  cases c with
  |seq x y=>
   refine wp_seq (a4j hA hP x st sy a w _ _ h hs hr fun e st1 sy1 a1 w1 hp hk hs1 hl=> ?_)
   cases e with
   |normal=>exact b5A hA hP n y st1 sy1 a1 w1 K KT hk hs1 hl.rel (fun e st' sy' a' w' hp hk hs' hl'=>hQ e st' sy' a' w' hp hk hs' (Lv.trans hl hl')) fun st' sy' a' w' hk hs' hl'=>hT st' sy' a' w' hk hs' (Lv.trans hl hl')
   |exit id=>exact hQ _ _ _ _ _ hp hk hs1 hl
   |ret=>exact hQ _ _ _ _ _ hp hk hs1 hl
   |goto l=>exact hp.elim
   |panic c=>exact hp.elim
   |outgrown=>exact hp.elim
  |_=>exact h.elim
end
theorem a4c {P:Program} {ops:Array Oper} {Q:Exit→Act→World→Prop} {o:Oper} {rest:List Oper} {a:Act} {w w':World} {v:Value} (hg:o.guard=none) (h:(execOp a.eval o).run P w= .ok (.value v) w') (hn:wpList P ops Q rest (a.put o.dst v) w'):wpList P ops Q (o::rest) a w:=by
 have hw:Region.wanted o (yielded ops a.tmps)=true:=by simp [Region.wanted,hg]
 simp only [wpList,hw,if_true]
 left
 unfold Oper.wp
 rw [h]
 exact hn
theorem b1c {a:Act} {d:Nat} {v:Value} (h:d<a.tmps.size):(a.put (some d) v).tmps[d]?=some v:=by simp [Act.put,h]
theorem b6S {a:Act} {d e:Nat} {v:Value} (h:d≠e):(a.put (some d) v).tmps[e]?=a.tmps[e]?:=by simp [Act.put,h]
theorem a4A {a:Act} {d:Option Nat} {v:Value}:(a.put d v).tmps.size=a.tmps.size:=by cases d<;>simp [Act.put]
theorem a9c {a:Act} {d:Option Nat} {v:Value}:(a.put d v).defers=a.defers:=by cases d<;>simp [Act.put]
theorem a8v {a:Act} {d:Nat} {v:Value} (h:a.tmps[d]?=some v):a.eval (.tmp d)=v:=by simp [Act.eval,h]
section
variable {X : Cy} {Q : Exit → Act → World → Prop} {t e esz bytes : Nat} {i ie : TI} {a : Act} {w : World} {g n cap m : Nat} {cur : Array Value}
theorem c0V (hi:U9 X.P t i) (hd:i.d= .slice e esz bytes) (hm:m≤n) (hnc:n≤cap) (w:World):
 ∃o,(Instr.sliceAt t (.slice (some ⟨g,0,none⟩) n cap) (some (.int .i64 m)) none none).run X.P w= .ok (.slice (some ⟨g,o,none⟩) (n-m) (cap-m)) w∧(n-m=0∨o=m*esz):=by
 have hu:=(hi.slice hd).1
 have hsz:(sizeOf e).run X.P w= .ok esz w:=by
  obtain⟨_,inf,h1,h2,_⟩:=hi.slice hd
  simp [sizeOf,typeInfo,h1,h2]
 by_cases hc:cap=m
 · refine⟨0, ?_, .inl (by omega)⟩
   simp [Instr.sliceAt,Instr.slice,J7 hu,Instr.sliceBounds,run_sliceBound,hm,hsz,hc]
 · refine⟨m*esz, ?_, .inr rfl⟩
   simp [Instr.sliceAt,Instr.slice,J7 hu,Instr.sliceBounds,run_sliceBound,hm,hsz,hc,X9]
theorem c4w (hi:U9 X.P t i) (hd:i.d= .slice e esz bytes) (hm:m≤cap) (w:World):
 (Instr.sliceAt t (.slice (some ⟨g,0,none⟩) n cap) none (some (.int .i64 m)) none).run X.P w= .ok (.slice (some ⟨g,0,none⟩) m cap) w:=by
 have hu:=(hi.slice hd).1
 have hsz:(sizeOf e).run X.P w= .ok esz w:=by
  obtain⟨_,inf,h1,h2,_⟩:=hi.slice hd
  simp [sizeOf,typeInfo,h1,h2]
 by_cases hc:cap=0
 · subst hc
   have:m=0:=by omega
   subst this
   simp [Instr.sliceAt,Instr.slice,J7 hu,Instr.sliceBounds,run_sliceBound,hsz]
 · simp [Instr.sliceAt,Instr.slice,J7 hu,Instr.sliceBounds,run_sliceBound,hm,hsz,hc,X9]
end
end Go.Sx
namespace Go.Sx
open Go Go.RowKit
def b3G (o:Oper):Bool:=match o.op with| .defer _=>false|_=>true
def b4G:List Oper→Bool
 | []=>true
 |o::l=>match b3G o with|true=>b4G l|false=>false
def b2n (fz:List Nat) (o:Oper):Bool:=match o.dst with|none=>true|some d=>match R8 d fz with|true=>false|false=>true
def b4o (fz:List Nat):List Oper→Bool
 | []=>true
 |o::l=>match b2n fz o with|true=>b4o fz l|false=>false
def S7 (fz:List Nat):Code→Bool
 | .region _ ops _=>match b4G ops.toList with|true=>b4o fz ops.toList|false=>false
 | .seq a b=>match S7 fz a with|true=>S7 fz b|false=>false
 | .cond _ a b=>match S7 fz a with|true=>S7 fz b|false=>false
 | .block _ c=>S7 fz c
 | .loop c=>S7 fz c
 | .skip=>true
 | .label _=>true
 | .exit _=>true
 | .ret=>true
 |_=>false
theorem b7u {l:List Oper} (h:b4G l=true):∀o,o∈l→b3G o=true:=by
 induction l with
 |nil=>simp
 |cons x l ih=>
  simp only [b4G]at h
  split at h
  · rename_i hx
    intro o ho
    rcases List.mem_cons.1 ho with rfl|ho
    · exact hx
    · exact ih h o ho
  · cases h
theorem b3O {P:Program} {l n:Nat} {a:Act} {w:World} {o:Oper} {K:Act→World→Prop} {Q Q':Exit→Act→World→Prop} (h:o.wpIn (Fence.wide.inRound l) n P a w K Q) (hq:¬LetsOut Q) (hp:∀c a w,¬Q (.panic c) a w):o.wpIn (Fence.wide.inRound l) n P a w K Q':=by
 unfold Oper.wpIn at*
 refine⟨h.1, ?_⟩
 have h:=h.2
 generalize (o.semAt (Fence.wide.inRound l).round a.eval).run P w=r at*
 cases r with
 |ok x w'=>
  cases x with
  |value v=>exact h
  |skip=>exact h
  |defer d=>exact h
  |enter f args=>
   refine⟨h.1,h.2.mono fun e w'' he=> ?_⟩
   cases e with
   |returned v=>exact he
   |panicked c=>exact absurd he (hp _ _ _)
   |outgrown=>exact absurd he hq
  |row row args=>exact h
  |round l f tmps assign body=>
   refine⟨h.1,h.2.mono fun e w'' he=> ?_⟩
   cases e with
   |returned v=>exact he
   |panicked c=>exact absurd he (hp _ _ _)
   |outgrown=>exact absurd he hq
  |_=>exact h.elim
 |halt hl w'=>
  cases hl with
  |panic v=>exact absurd h (hp _ _ _)
  |_=>exact h.elim
theorem b6u {fz:List Nat} {l:List Oper} (h:b4o fz l=true):∀o,o∈l→b2n fz o=true:=by
 induction l with
 |nil=>simp
 |cons x l ih=>
  simp only [b4o]at h
  split at h
  · rename_i hx
    intro o ho
    rcases List.mem_cons.1 ho with rfl|ho
    · exact hx
    · exact ih h o ho
  · cases h
def a6p (fz:List Nat) (a a':Act):Prop:=∀d,d∈fz→a'.tmps[d]?=a.tmps[d]?
theorem a4g {fz:List Nat} {a0 a:Act} {o:Oper} {v:Value} (hd:b2n fz o=true) (h:a6p fz a0 a):a6p fz a0 (a.put o.dst v):=by
 intro d hm
 rw [←h d hm]
 unfold b2n at hd
 cases ho:o.dst with
 |none=>simp [Act.put]
 |some e=>
  rw [ho]at hd
  simp only at hd
  split at hd
  · cases hd
  · rename_i hn
    have hne:e≠d:=fun e'=>by subst e';rw [M6.2 hm]at hn;cases hn
    simp [Act.put,hne]
section
variable {P : Program} {l n : Nat} {a a0 : Act} {w : World} {Q : Exit → Act → World → Prop} {fz : List Nat}
theorem b7O {o:Oper} {K:Act→World→Prop} (hn:b3G o=true) (hd:b2n fz o=true) (hk:a6p fz a0 a) (h:o.wp P a w K Q):o.wpIn (Fence.wide.inRound l) n P a w (fun a' w'=>a6p fz a0 a'∧K a' w') Q:=by
 unfold Oper.wp at h
 unfold Oper.wpIn
 refine⟨fun _ _=>trivial, ?_⟩
 have hne:∀c,o.op≠ .defer c:=fun c e=>by simp [b3G,e]at hn
 rw [Fence.inRound_round,Oper.semAt_some l a.eval o hne]
 generalize (execOp a.eval o).run P w=r at*
 cases r with
 |ok x w'=>
  cases x with
  |value v=>exact⟨a4g hd hk,h⟩
  |skip=>exact⟨a4g hd hk,h⟩
  |defer d=>exact⟨a4g (a:= { a with defers:=d::a.defers}) hd hk,h⟩
  |enter f args=>
   refine⟨fun h=>by simp [Fence.wide]at h,((callsIn_wide.2 h).inRound l).mono fun e w'' he=> ?_⟩
   cases e with
   |returned v=>exact⟨a4g hd hk,he⟩
   |panicked c=>exact he
   |outgrown=>exact he
  |row row args=>
   refine⟨fun h=>by simp [Fence.wide]at h,fun c cs _=> ?_⟩
   obtain⟨v,w',r,s⟩:=h c cs
   exact⟨v,w',⟨a4g hd hk,r⟩,stepsIn_wide.2 s⟩
  |_=>exact h.elim
 |halt hl w'=>cases hl<;>exact h
theorem b7S {ops:Array Oper} (hq:¬LetsOut Q) (hp:∀c a w,¬Q (.panic c) a w):∀(rest:List Oper) (a:Act) (w:World),(∀o,o∈rest→b3G o=true)→(∀o,o∈rest→b2n fz o=true)→a6p fz a0 a→wpList P ops Q rest a w→wpListIn (Fence.wide.inRound l) n P ops (fun e a' w'=>a6p fz a0 a'∧Q e a' w') rest a w
 | [],a,w,_,_,hk,h=>⟨hk,h⟩
 |o::rest,a,w,hn,hd,hk,h=>by
  have ih:=fun a w hk=>b7S (ops:=ops) hq hp rest a w (fun o ho=>hn o (List.mem_cons_of_mem _ ho)) (fun o ho=>hd o (List.mem_cons_of_mem _ ho)) hk
  simp only [wpList]at h
  simp only [wpListIn]
  split at h
  · rename_i hw
    rw [if_pos hw]
    rcases h with h|⟨_,h⟩
    · exact b3O (Oper.wpIn_mono (fun a w h=>ih a w h.1 h.2) (b7O (hn o List.mem_cons_self) (hd o List.mem_cons_self) hk h)) hq hp
    · exact absurd h hq
  · rename_i hw
    rw [if_neg hw]
    exact⟨fun _ _=>trivial,ih _ _ (a4g (hd o List.mem_cons_self) hk) h⟩
theorem b5a {ops:Array Oper} {md:Region.Mode} (hq:¬LetsOut Q) (hp:∀c a w,¬Q (.panic c) a w) (hn:∀o,o∈ops.toList→b3G o=true) (hd:∀o,o∈ops.toList→b2n fz o=true):∀(fuel:Nat) (listed:Array Bool) (a:Act) (w:World),a6p fz a0 a→wpAny P md ops Q fuel listed a w→wpAnyIn (Fence.wide.inRound l) n P md ops (fun e a' w'=>a6p fz a0 a'∧Q e a' w') fuel listed a w
 |0,listed,a,w,hk,h=>⟨h.1,hk,h.2⟩
 |fuel+1,listed,a,w,hk,h=>by
  refine⟨fun hr=>⟨hk,h.1 hr⟩,fun i hi=> ?_⟩
  have h2:=h.2 i hi
  unfold wpOp at h2
  unfold wpOpIn
  cases ho:ops[i]? with
  |none=>rw [ho]at h2;exact b5a hq hp hn hd fuel _ a w hk h2
  |some o=>
   rw [ho]at h2
   have hm:=List.mem_of_getElem? (show ops.toList[i]?=some o by simpa using ho)
   simp only at h2⊢
   split at h2
   · rename_i hw
     rw [if_pos hw]
     rcases h2 with h2|⟨_,h2⟩
     · exact b3O (Oper.wpIn_mono (fun a w h=>b5a hq hp hn hd fuel _ a w h.1 h.2) (b7O (hn o hm) (hd o hm) hk h2)) hq hp
     · exact absurd h2 hq
   · rename_i hw
     rw [if_neg hw]
     exact⟨fun _ _=>trivial,b5a hq hp hn hd fuel _ _ _ (a4g (hd o hm) hk) h2⟩
end
section
variable {A : Nat → Prop} {X : Cy} {w0 : World} {bor : List Nat}
theorem b2D (l n:Nat) (fz:List Nat) (hA:∀b,(w0.heap.size≤b∨b∈bor)→A b) (hP:POK X.P X.tt) (c:Code) (hc:S7 fz c=true):∀(st:St) (sy:Sy) (a0 a:Act) (w:World) (K:Exit→Sy→Prop) (Q:Exit→Act→World→Prop),a6p fz a0 a→U8 X c sy K→Sim A st sy→Rel (cx X w0 bor) st a w→
 (∀e st' sy' a' w',plain e→K e sy'→Sim A st' sy'→Lv (cx X w0 bor) st.H w st' a' w'→a6p fz a0 a'→Q e a' w')→c.wpIn (Fence.wide.inRound l) n X.P Q a w:=by
 induction c with
 |skip=>exact fun st sy a0 a w K Q hk h hs hr hQ=>wpIn_skip (hQ .normal st sy a w trivial h hs (Lv.refl hr) hk)
 |label l=>exact fun st sy a0 a w K Q hk h hs hr hQ=>wpIn_label (hQ .normal st sy a w trivial h hs (Lv.refl hr) hk)
 |exit id=>exact fun st sy a0 a w K Q hk h hs hr hQ=>wpIn_exit (hQ (.exit id) st sy a w trivial h hs (Lv.refl hr) hk)
 |ret=>exact fun st sy a0 a w K Q hk h hs hr hQ=>wpIn_ret (hQ .ret st sy a w trivial h hs (Lv.refl hr) hk)
 |region id ops draw=>
  intro st sy a0 a w K Q hkp h hs hr hQ
  simp only [S7]at hc
  split at hc
  · rename_i hn0
    have hn:=b7u hn0
    have hd:=b6u hc
    have hno:¬LetsOut fun e a w=>e=Exit.normal∧(a6p fz a0 a→Q e a w):=by
     rintro⟨a,w,h,_⟩;cases h
    have hpn:∀c a w,¬((Exit.panic c)=Exit.normal∧(a6p fz a0 a→Q (.panic c) a w)):=by
     rintro c a w ⟨h,_⟩;cases h
    have hmono:∀e a w,(a6p fz a0 a∧(e=Exit.normal∧(a6p fz a0 a→Q e a w)))→Q e a w:=fun _ _ _ h=>h.2.2 h.1
    cases draw with
    |false=>exact wpIn_mono (wpIn_region_list (b7S hno hpn _ _ _ hn hd hkp (a8q hA hP ops.toList _ _ a w _ h hs hr fun st' sy' a' w' hk hs' hl=>⟨rfl,hQ .normal st' sy' a' w' trivial hk hs' hl⟩))) hmono
    |true=>
     simp only [U8]at h
     split at h
     · obtain⟨T,H,nk⟩:=sy
       obtain⟨T',H',nk',ws,lo,iv⟩:=st
       have hx:=a1Z (w0:=w0) (bor:=bor) hA hP _ h.2 (b1u (ops:=ops.toList) hs)
       exact wpIn_mono (wpIn_region_any hP.mix (b5a hno hpn hn hd _ _ _ _ hkp (a3v (X:=cx X w0 bor) hP hr h.1 hx fun st' a' w' ⟨sy',hk,hs'⟩ hl=>⟨rfl,hQ .normal st' sy' a' w' trivial hk hs' hl⟩))) hmono
     · exact h.elim
  · cases hc
 |seq x y ihx ihy=>
  intro st sy a0 a w K Q hkp h hs hr hQ
  simp only [S7]at hc
  split at hc
  · rename_i hcx
    refine wpIn_seq (ihx hcx st sy a0 a w _ _ hkp h hs hr fun e st1 sy1 a1 w1 hp hk hs1 hl hkp1=> ?_)
    cases e with
    |normal=>exact ihy hc st1 sy1 a0 a1 w1 K Q hkp1 hk hs1 hl.rel fun e st2 sy2 a2 w2 hp hk2 hs2 hl2=>hQ e st2 sy2 a2 w2 hp hk2 hs2 (Lv.trans hl hl2)
    |exit id=>exact hQ _ _ _ _ _ hp hk hs1 hl hkp1
    |ret=>exact hQ _ _ _ _ _ hp hk hs1 hl hkp1
    |goto l=>exact hp.elim
    |panic c=>exact hp.elim
    |outgrown=>exact hp.elim
  · cases hc
 |cond c x y ihx ihy=>
  intro st sy a0 a w K Q hkp h hs hr hQ
  simp only [S7]at hc
  split at hc
  · rename_i hcx
    simp only [U8]at h
    split at h
    · rename_i b hcd
      obtain⟨s,h1,h2,_⟩:=n8 hs hcd
      have:=h2.sc;subst this
      have hb:a.eval c= .bool b:=by simpa [den]using (hr.ev c _ h1).2
      cases b with
      |true=>exact wpIn_cond_true hb (ihx hcx st sy a0 a w K Q hkp h hs hr hQ)
      |false=>exact wpIn_cond_false hb (ihy hc st sy a0 a w K Q hkp h hs hr hQ)
    · exact h.elim
  · cases hc
 |block id c ih=>
  intro st sy a0 a w K Q hkp h hs hr hQ
  refine wpIn_block (ih hc st sy a0 a w _ _ hkp h hs hr fun e st1 sy1 a1 w1 hp hk hs1 hl hkp1=> ?_)
  cases e with
  |normal=>exact hQ _ _ _ _ _ hp hk hs1 hl hkp1
  |exit j=>
   simp only [Exit.inBlock]
   simp only at hk
   split at hk
   · rename_i hb
     rw [if_pos (B9 hb)]
     exact hQ .normal _ _ _ _ trivial hk hs1 hl hkp1
   · rename_i hb
     rw [if_neg (a2Y hb)]
     exact hQ _ _ _ _ _ hp hk hs1 hl hkp1
  |ret=>exact hQ _ _ _ _ _ hp hk hs1 hl hkp1
  |goto l=>exact hp.elim
  |panic c=>exact hp.elim
  |outgrown=>exact hp.elim
 |loop c ih=>
  intro st sy a0 a w K Q hkp h hs hr hQ
  have h:z7 (U8 X c) sy K:=h
  obtain⟨α,f,inv,μ,⟨x0,hsub,hinv⟩,hround⟩:=h.ex
  obtain⟨st0,hs0,hr0,hb0⟩:=hsub.rel hA hs hr
  refine wpIn_loop_ghost (fun n a1 w1=>∃x,μ x=n∧inv x∧a6p fz a0 a1∧∃st1,Sim A st1 (f x)∧Lv (cx X w0 bor) st.H w st1 a1 w1) (μ x0) ⟨x0,rfl,hinv,hkp,st0,hs0,hr0,Fx.refl _ _,fun b hb=> .inl (hb0 b hb)⟩ ?_
  rintro n a1 w1 ⟨x,rfl,hinv1,hkp1,st1,hs1,hlv⟩
  refine ih hc st1 (f x) a0 a1 w1 _ _ hkp1 (hround x hinv1) hs1 hlv.rel fun e st2 sy2 a2 w2 hp hk hs2 hl hkp2=> ?_
  have hl2:=Lv.trans hlv hl
  cases e with
  |normal=>
   obtain⟨y,hsb,hi,hlt⟩:=hk
   obtain⟨st3,hs3,hr3,hb3⟩:=hsb.rel hA hs2 hl2.rel
   exact⟨μ y,hlt,y,rfl,hi,hkp2,st3,hs3,hr3,hl2.fx,fun b hb=>hl2.bs b (hb3 b hb)⟩
  |exit j=>exact hQ _ _ _ _ _ hp hk hs2 hl2 hkp2
  |ret=>exact hQ _ _ _ _ _ hp hk hs2 hl2 hkp2
  |goto l=>exact hp.elim
  |panic c=>exact hp.elim
  |outgrown=>exact hp.elim
 |_=>exact absurd hc (by simp [S7])
end
end Go.Sx
namespace Go.Sx
open Go Go.RowKit
mutual
theorem Rep.keep {ok ok':Nat→Prop} {w w':World} (hm:∀b,ok b→ok' b∧(∀p c,w.cell? ⟨b,p,none⟩=some c→w'.cell? ⟨b,p,none⟩=some c)∧∀es c,w.heap[b]?=some (Obj.map es c)→w'.heap[b]?=some (Obj.map es c)):∀(d:D) (y:Value),Rep ok w d y→Rep ok' w' d y
 | .v x,y,h=>h
 | .agg l,y,h=>by
  simp only [Rep]at h⊢
  obtain⟨a,h1,h2,h3⟩:=h
  exact⟨a,h1,j3.keep hm l _ h2,h3⟩
 | .lst z n l,y,h=>by
  simp only [Rep]at h⊢
  obtain⟨a,c,h1,h2,h3,h4,h5,h6⟩:=h
  refine⟨a,c,h1,h2,h3,h4,h5, ?_⟩
  rcases h6 with h6|⟨b,o,xs,e1,e2,e3,e4⟩
  · exact .inl h6
  · refine .inr ⟨b,o,xs,e1,(hm b e2).1,j3.keep hm l _ e3,fun j hj=> ?_⟩
    have hlt:j<xs.length:=by rw [←j3.length e3,h4];exact hj
    have hx:=e4 j hj
    rw [List.getElem?_eq_getElem hlt]at hx⊢
    exact(hm b e2).2.1 _ _ hx
 | .ptr l o,y,h=>by
  simp only [Rep]at h⊢
  obtain⟨b,p,xs,e1,e2,e5,e3,e4⟩:=h
  refine⟨b,p,xs,e1,(hm b e2).1,e5,j3.keep hm l _ e3,fun j hj=> ?_⟩
  have hlt:j<xs.length:=by rw [←j3.length e3];exact hj
  have hx:=e4 j hj
  rw [List.getElem?_eq_getElem hlt]at hx⊢
  exact(hm b e2).2.1 _ _ hx
 | .fn f a b,y,h=>by
  simp only [Rep]at h⊢
  obtain⟨p,q,h1,h2,h3⟩:=h
  exact⟨p,q,h1,j3.keep hm a _ h2,j3.keep hm b _ h3⟩
 | .tup l,y,h=>by
  simp only [Rep]at h⊢
  obtain⟨a,h1,h2⟩:=h
  exact⟨a,h1,j3.keep hm l _ h2⟩
 | .mp l,y,h=>by
  simp only [Rep]at h⊢
  obtain⟨r,es,c,h1,h2,h3,h4⟩:=h
  exact⟨r,es,c,h1,(hm r h2).1,(hm r h2).2.2 _ _ h3,h4⟩
 | .own _ _,_,h=>by simp [Rep]at h
 | .ownx _ _,_,h=>by simp [Rep]at h
 | .row _ _,_,h=>by simp [Rep]at h
 | .elr _ _ _ _,_,h=>by simp [Rep]at h
 | .osl _ _ _ _ _,_,h=>by simp [Rep]at h
 | .und,_,h=>by simp [Rep]at h
 | .bad,_,h=>by simp [Rep]at h
theorem j3.keep {ok ok':Nat→Prop} {w w':World} (hm:∀b,ok b→ok' b∧(∀p c,w.cell? ⟨b,p,none⟩=some c→w'.cell? ⟨b,p,none⟩=some c)∧∀es c,w.heap[b]?=some (Obj.map es c)→w'.heap[b]?=some (Obj.map es c)):∀(l:List D) (r:List Value),j3 ok w l r→j3 ok' w' l r
 | [], [],_=>trivial
 |d::l,y::r,h=>by
  simp only [j3]at h⊢
  exact⟨Rep.keep hm d y h.1,j3.keep hm l r h.2⟩
 | [],_::_,h=>by simp [j3]at h
 |_::_, [],h=>by simp [j3]at h
end
mutual
theorem i0.keep {ok ok':Nat→Prop} {w w':World} {R R':Bool→Nat→Prop} (hm:∀b,ok b→ok' b∧(∀p c,w.cell? ⟨b,p,none⟩=some c→w'.cell? ⟨b,p,none⟩=some c)∧∀es c,w.heap[b]?=some (Obj.map es c)→w'.heap[b]?=some (Obj.map es c)) (hR:∀q k,R q k→R' q k):∀(d:D) (s:SV),i0 ok w R d s→i0 ok' w' R' d s
 | .v x,y,h=>h
 | .agg l,y,h=>by
  simp only [i0]at h⊢
  obtain⟨a,h1,h2,h3⟩:=h
  exact⟨a,h1,d8.keep hm hR l _ h2,h3⟩
 | .lst z n l,y,h=>by
  simp only [i0]at h⊢
  obtain⟨a,h1,h2⟩:=h
  exact⟨a,h1,Rep.keep hm _ _ h2⟩
 | .ptr l o,y,h=>by
  simp only [i0]at h⊢
  obtain⟨a,h1,h2⟩:=h
  exact⟨a,h1,Rep.keep hm _ _ h2⟩
 | .mp l,y,h=>by
  simp only [i0]at h⊢
  obtain⟨a,h1,h2⟩:=h
  exact⟨a,h1,Rep.keep hm _ _ h2⟩
 | .own k o,y,h=>by simp only [i0]at h⊢;exact⟨h.1,hR _ k h.2⟩
 | .ownx k o,y,h=>by simp only [i0]at h⊢;exact⟨h.1,hR _ k h.2⟩
 | .row k z,y,h=>by simp only [i0]at h⊢;exact⟨h.1,hR _ k h.2⟩
 | .elr k z i o,y,h=>by simp only [i0]at h⊢;exact⟨h.1,hR _ k h.2⟩
 | .osl k o z n c,y,h=>by simp only [i0]at h⊢;exact⟨h.1,hR _ k h.2⟩
 | .tup l,y,h=>by
  simp only [i0]at h⊢
  rcases h with⟨cs,h1,h2⟩|⟨a,h1,h2⟩
  · exact .inl ⟨cs,h1,d8.keep hm hR l _ h2⟩
  · exact .inr ⟨a,h1,d8.keep hm hR l _ h2⟩
 | .fn f a b,y,h=>by
  simp only [i0]at h⊢
  rcases h with⟨p,q,h1,h2,h3⟩|⟨p,q,h1,h2,h3⟩
  · exact .inl ⟨p,q,h1,d8.keep hm hR a _ h2,d8.keep hm hR b _ h3⟩
  · exact .inr ⟨p,q,h1,d8.keep hm hR a _ h2,d8.keep hm hR b _ h3⟩
 | .und,_,h=>h
 | .bad,_,h=>h
theorem d8.keep {ok ok':Nat→Prop} {w w':World} {R R':Bool→Nat→Prop} (hm:∀b,ok b→ok' b∧(∀p c,w.cell? ⟨b,p,none⟩=some c→w'.cell? ⟨b,p,none⟩=some c)∧∀es c,w.heap[b]?=some (Obj.map es c)→w'.heap[b]?=some (Obj.map es c)) (hR:∀q k,R q k→R' q k):∀(l:List D) (r:List SV),d8 ok w R l r→d8 ok' w' R' l r
 | [], [],_=>trivial
 |d::l,y::r,h=>by
  simp only [d8]at h⊢
  exact⟨i0.keep hm hR d y h.1,d8.keep hm hR l r h.2⟩
 | [],_::_,h=>by simp [d8]at h
 |_::_, [],h=>by simp [d8]at h
end
theorem a6F {H:Hp} {w:World} {e:Ent} {b:Nat} (h:a4J 0 H w e) (hb:b∈bsE e):∃cs t f,w.heap[b]?=some (.cells cs t f):=by
 cases e with
 |blk b' cs ty=>
  simp only [bsE,List.mem_singleton]at hb;subst hb
  obtain⟨xs,_,h⟩:=h
  exact⟨_,_,_,h⟩
 |row v n xs z ty=>
  obtain⟨_,h⟩:=(show w.ownsRow 0 ty z v n xs from h)
  rcases h with⟨rfl,_⟩|⟨g,cap,cur,rfl,_,hg,_⟩
  · simp [bsE,q9]at hb
  · simp [bsE,q9]at hb;subst hb;exact⟨_,_,_,hg⟩
section
variable {A : Nat → Prop} {X : Cy} {w0 : World} {bor : List Nat} {st : St} {sy : Sy} {a : Act} {W W' : World}
def b9K:Obj→Bool
 | .cells _ _ _=>false
 | .map _ _=>false
 |_=>true
theorem turn {row:Option Nat} (hs:Sim A st sy) (hr:Rel (cx X w0 bor) st a W) (hg:W.grownBy W' row) (hrow:∀r,row=some r→w0.heap.size≤r∧∃o:Obj,W.heap[r]?=some o∧b9K o=true):Sim A (now st W') sy∧Rel (cx X w0 bor) (now st W') a W':=by
 have hs0:=hs.now hr.cls
 have hr0:=hr.now
 have hcell:∀b p c,W.cell? ⟨b,p,none⟩=some c→W'.cell? ⟨b,p,none⟩=some c:=by
  intro b p c h
  by_cases hb:b<W.heap.size
  · by_cases hrb:row=some b
    · obtain⟨_,o,ho,hc⟩:=hrow b hrb
      simp only [World.cell?,ho]at h
      cases o<;>simp_all [b9K]
    · simp only [World.cell?,hg.block b hb (fun e=>hrb e.symm)]at h⊢
      exact h
  · simp [World.cell?,Array.getElem?_eq_none (Nat.le_of_not_lt hb)]at h
 have hmap:∀(b:Nat) es c,W.heap[b]?=some (Obj.map es c)→W'.heap[b]?=some (Obj.map es c):=by
  intro b es c h
  rw [hg.block b (Array.getElem?_eq_some_iff.1 h).1 fun hrb=> ?_]
  · exact h
  · obtain⟨_,o,ho,hc⟩:=hrow b hrb.symm
    rw [h]at ho;cases ho;simp [b9K]at hc
 have hok:∀b,okS A (now st W) b→okS A (now st W') b∧(∀p c,W.cell? ⟨b,p,none⟩=some c→W'.cell? ⟨b,p,none⟩=some c)∧∀es c,W.heap[b]?=some (Obj.map es c)→W'.heap[b]?=some (Obj.map es c):=fun b hb=>
  ⟨⟨⟨.inl (Nat.lt_of_lt_of_le hb.2.1 hg.size),hb.1.2⟩,Nat.lt_of_lt_of_le hb.2.1 hg.size,hb.2.2⟩,hcell b,hmap b⟩
 constructor
 · refine⟨fun d x hx=> ?_,fun k e he=> ?_,hs0.nk,hs0.fT,hs0.fH⟩
   · rcases hs0.T d x hx with h|⟨s,h1,h2⟩
     · exact .inl h
     · exact .inr ⟨s,h1,i0.keep hok (fun _ _ h=>h) _ _ h2⟩
   · obtain⟨e',h1,h2⟩:=hs0.H k e he
     refine⟨e',h1, ?_⟩
     cases e<;>cases e'<;>simp only [a3z]at h2⊢
     · exact⟨h2.1,d8.keep hok (fun _ _ h=>h) _ _ h2.2⟩
     · exact⟨h2.1,h2.2.1,h2.2.2.1,j3.keep hok _ _ h2.2.2.2.1,h2.2.2.2.2⟩
 · have hc:=hr0.cls
   have hbs:∀k e,(k,e)∈st.H→∀b,b∈bsE e→W'.heap[b]?=W.heap[b]?:=by
    intro k e he b hb
    obtain⟨cs,t,f,hcl⟩:=a6F (hc.own k e he) hb
    refine hg.block b (by rw [Array.getElem?_eq_some_iff]at hcl;exact hcl.1) fun hrb=> ?_
    obtain⟨_,o,ho,hno⟩:=hrow b hrb.symm
    rw [hcl]at ho;cases ho;simp [b9K]at hno
   refine⟨hr0.size,hr0.T,hr0.dfs,⟨Fx.refl _ _, ?_,fun k e he=>Y4 (hc.own k e he) (hbs k e he),hc.nd,hc.lb,hc.keys,hc.lt⟩,Nat.le_refl _,by simp [now]⟩
   have f0:=hc.fx0
   refine⟨hg.os.trans f0.os,hg.tape.trans f0.tape,hg.output.trans f0.output,Nat.le_trans f0.size hg.size,fun i hi hn=> ?_⟩
   rw [hg.block i (Nat.lt_of_lt_of_le hi f0.size) fun e=>by have:=(hrow i e.symm).1;exact absurd hi (Nat.not_lt.2 this)]
   exact f0.block i hi hn
end
end Go.Sx
namespace Go.Sx
open Go Go.RowKit
def a6V (fz:List Nat):List (Nat×SV)→List (Nat×SV)
 | []=> []
 |(d,s)::T=>match R8 d fz with|true=>(d,s)::a6V fz T|false=>a6V fz T
theorem b1k {fz:List Nat} {d:Nat} (hd:d∈fz) (T:List (Nat×SV)):C6 (a6V fz T) d=C6 T d:=by
 induction T with
 |nil=>rfl
 |cons p T ih=>
  obtain⟨e,s⟩:=p
  simp only [a6V]
  cases hm:R8 e fz with
  |true=>simp only [C6,ih]
  |false=>
   have hne:Nat.beq e d=false:=a0c fun e'=>by subst e';rw [M6.2 hd]at hm;cases hm
   simp only [C6,hne,ih]
theorem b0D {fz:List Nat} {d:Nat} {s:SV} {T:List (Nat×SV)} (h:C6 (a6V fz T) d=some s):d∈fz:=by
 induction T with
 |nil=>simp [a6V,C6]at h
 |cons p T ih=>
  obtain⟨e,s⟩:=p
  simp only [a6V]at h
  cases hm:R8 e fz with
  |true=>
   rw [hm]at h
   simp only [C6]at h
   split at h
   · rename_i hb
     obtain rfl:=B9 hb
     exact M6.1 hm
   · exact ih h
  |false=>rw [hm]at h;exact ih h
theorem b5S {fz:List Nat} {j:Nat} {T:List (Nat×SV)} (h:B0 j T=true):B0 j (a6V fz T)=true:=by
 induction T with
 |nil=>rfl
 |cons p T ih=>
  obtain⟨e,s⟩:=p
  simp only [B0]at h
  simp only [a6V]
  cases hm:R8 e fz with
  |true=>
   cases hx:ment j s with
   |true=>rw [hx]at h;cases h
   |false=>rw [hx]at h;simp only [B0,hx];exact ih h
  |false=>
   cases hx:ment j s with
   |true=>rw [hx]at h;cases h
   |false=>rw [hx]at h;exact ih h
section
variable {A : Nat → Prop} {X : Cy} {w0 : World} {bor : List Nat} {st : St} {sy : Sy} {a a' : Act} {W : World} {fz : List Nat}
theorem c4K (hs:Sim A st sy) (hr:Rel (cx X w0 bor) st a' W) (hk:a6p fz a a') (hsz:a.tmps.size=X.nt) (hT:∀d x,w8 sy.T d=some x→d∈fz) (ds:List Deferred) (hds:a.defers=ds):
 Sim A ⟨a6V fz st.T,st.H,st.nk,st.w,st.lo,st.iv⟩ sy∧Rel (cx { X with dfs:=ds} w0 bor) ⟨a6V fz st.T,st.H,st.nk,st.w,st.lo,st.iv⟩ a W:=by
 constructor
 · refine⟨fun d x hx=> ?_,hs.H,hs.nk,fun j hj=>b5S (hs.fT j hj),hs.fH⟩
   rcases hs.T d x hx with h|⟨s,h1,h2⟩
   · exact .inl h
   · exact .inr ⟨s,by rw [b1k (hT d x hx)];exact h1,h2⟩
 · refine⟨⟨hsz,hr.size.2⟩,fun d s h=> ?_,hds,⟨hr.cls.fx,hr.cls.fx0,hr.cls.own,hr.cls.nd,hr.cls.lb,hr.cls.keys,hr.cls.lt⟩,hr.lo,hr.iv⟩
   have hd:=b0D h
   rw [b1k hd]at h
   rcases hr.T d s h with h|h
   · exact .inl h
   · right;simp only [R9]at h⊢;rw [←hk d hd];exact h
def b2S:List Nat→List Value→Array Value→Array Value
 |p::ps,v::vs,t=>b2S ps vs (t.setIfInBounds p v)
 |_,_,t=>t
theorem b8m:∀(ps:List Nat) (vs:List Value) (t:Array Value),(ps.zip vs).foldl (fun t (p:Nat×Value)=>t.setIfInBounds p.1 p.2) t=b2S ps vs t
 | [],_,t=>rfl
 |p::ps, [],t=>rfl
 |p::ps,v::vs,t=>by simp only [List.zip_cons_cons,List.foldl_cons,b2S];exact b8m ps vs _
def b3f (X:Cy):List Nat→List D→Sy→(Sy→Prop)→Prop
 | [], [],st,K=>K st
 |p::ps,d::ds,st,K=>Y1 X st (some p) d fun st=>b3f X ps ds st K
 |_,_,_,_=>False
theorem c1o {Xx:Cx} {dst:Option Nat} {s:SV} {K:St→Prop} (h:put Xx st dst s K):put Xx st dst s fun st'=>K st'∧st'.w=st.w∧st'.H=st.H∧st'.lo=st.lo∧st'.iv=st.iv:=by
 unfold put at h⊢
 cases dst with
 |none=>exact⟨h,rfl,rfl,rfl,rfl⟩
 |some d=>
  obtain⟨T,H,nk,w,lo,iv⟩:=st
  simp only at h⊢
  split at h
  · rename_i hd heq
    cases heq
    exact⟨h,rfl,rfl,rfl,rfl⟩
  · exact h.elim
theorem c0g {A:Nat→Prop} {st st':St} (hw:st'.w=st.w) (hH:st'.H=st.H) (hl:st'.lo=st.lo) (hi:st'.iv=st.iv):okS A st'=okS A st:=by
 funext b;simp only [okS,hw,hH,hl,hi]
theorem b8l:∀(ps:List Nat) (ds:List D) (vs:List Value) {K:Sy→Prop} {st:St} {sy:Sy} {a:Act},j3 (okS A st) st.w ds vs→b3f X ps ds sy K→Sim A st sy→Rel (cx X w0 bor) st a W→
 ∃st' sy',K sy'∧Sim A st' sy'∧Rel (cx X w0 bor) st' { a with tmps:=b2S ps vs a.tmps} W∧st'.H=st.H
 | [], [],vs,K,st,sy,a,hv,h,hs,hr=>by
  cases vs with
  |nil=>exact⟨st,sy,h,hs,hr,rfl⟩
  |cons v vs=>exact absurd hv (by simp [j3])
 |p::ps,d::ds, [],K,st,sy,a,hv,h,hs,hr=>absurd hv (by simp [j3])
 |p::ps,d::ds,v::vs,K,st,sy,a,hv,h,hs,hr=>by
  have hd:Rep (okS A st) st.w d v:=hv.1
  have hput:=c1o (K8 (w0:=w0) (bor:=bor) (s:= .v v) h hs (Rep.rel _ _ hd))
  obtain⟨st1,⟨⟨sy1,h1,h2⟩,e1,e2,e3,e4⟩,h3,h4⟩:=a2C hr hput (v:=v) (.inr (by simp [den]))
  obtain⟨st2,sy2,g1,g2,g3,g4⟩:=b8l ps ds vs (by rw [c0g e1 e2 e3 e4,e1];exact hv.2) h1 h2 h3
  exact⟨st2,sy2,g1,g2,g3,g4.trans h4⟩
 | [],_::_,_,_,_,_,_,_,h,_,_=>h.elim
 |_::_, [],_,_,_,_,_,_,h,_,_=>h.elim
end
def a7Z (P:Program) (gf:FuncId) (caps:List D) (xs:List (List D)):Prop:=
 ∀(ok O0:Nat→Prop) (W:World) (vl:List Value) (n l:Nat) (J:List (List D)→(Nat→Prop)→World→Prop) (Jx:List (List D)→World→Prop),
  j3 ok W caps vl→(∀b,ok b→b<W.heap.size∧¬O0 b)→(∀b,O0 b→b<W.heap.size)→
  (∀pre O A B,J pre O A→A.grownBy B none→J pre O B)→(∀pre A B,Jx pre A→A.grownBy B none→Jx pre B)→
  (∀pre x vals O W1,J pre O W1→(∀b,O b→b<W1.heap.size)→pre++ [x]<+:xs→j3 (fun b=>(ok b∨W.heap.size≤b)∧b<W1.heap.size∧¬O b) W1 x vals→
   YieldAt Fence.wide n P l vals.toArray W1 fun e W'=>
    (e= .returned (.bool true)∧∃O',J (pre++ [x]) O' W'∧W1.heap.size≤W'.heap.size∧(∀b,O' b→b<W'.heap.size∧(O b∨W1.heap.size≤b))∧∀b,b<W1.heap.size→¬O b→W'.heap[b]?=W1.heap[b]?)∨
    (e= .returned (.bool false)∧Jx (pre++ [x]) W'))→
  J [] O0 W→
  CallsIn Fence.wide (n+1) P gf (#[.func (.yield l) #[] #[]]++vl.toArray) W fun e W'=>(∃v,e= .returned v)∧((∃O,J xs O W')∨∃pre,pre<+:xs∧Jx pre W')
def c0C:Exit→Code
 | .exit id=> .exit id
 |_=> .ret
def c1Q {σ:Type} (f:σ→Sy) (fx:Exit→σ→Sy) (R:List (List D)→σ→Prop) (RX:Exit→List (List D)→σ→Prop) (pre:List (List D)) (e:Exit) (sy:Sy):Prop:=
 match e with
 | .normal=>∃s,R pre s∧i4 sy (f s)
 | .ret=>∃s,RX .ret pre s∧i4 sy (fx .ret s)
 | .exit id=>∃s,RX (.exit id) pre s∧i4 sy (fx (.exit id) s)
 |_=>False
abbrev a6f (D:Nat):Deferred:= { target:= .collected D,args:= #[]}
section
variable {A : Nat → Prop} {X : Cy} {w0 : World} {bor : List Nat} {st : St} {sy : Sy} {a : Act} {w : World}
structure Mid (A:Nat→Prop) (X:Cy) (w0:World) (bor:List Nat) (H:Hp) (w:World) (a:Act) (sy:Sy) (W:World):Prop where
 ex:∃st1,Sim A st1 sy∧Rel (cx X w0 bor) st1 a W∧Fx (bs H) w W∧∀b,b∈bs st1.H→b∈bs H∨w.heap.size≤b
theorem Mid.turn {H:Hp} {W W':World} {row:Option Nat} (h:Mid A X w0 bor H w a sy W) (h0:w0.heap.size≤w.heap.size) (hg:W.grownBy W' row) (hrow:∀r,row=some r→w.heap.size≤r∧∃o:Obj,W.heap[r]?=some o∧b9K o=true):Mid A X w0 bor H w a sy W':=by
 obtain⟨st1,hs,hr,hf,hb⟩:=h.ex
 obtain⟨h1,h2⟩:=Sx.turn hs hr hg fun r e=>⟨Nat.le_trans h0 (hrow r e).1,(hrow r e).2⟩
 refine⟨_,h1,h2,⟨hg.os.trans hf.os,hg.tape.trans hf.tape,hg.output.trans hf.output,Nat.le_trans hf.size hg.size,fun i hi hn=> ?_⟩,hb⟩
 rw [hg.block i (Nat.lt_of_lt_of_le hi hf.size) fun e=>by have:=(hrow i e.symm).1;omega]
 exact hf.block i hi hn
def a8b (fz ps:List Nat):Bool:=match fz with
 | []=>true
 |d::fz=>match R8 d ps with|false=>a8b fz ps|true=>false
theorem b7h {fz ps:List Nat} (h:a8b fz ps=true):∀d,d∈fz→d∉ps:=by
 induction fz with
 |nil=>simp
 |cons e fz ih=>
  simp only [a8b]at h
  split at h
  · rename_i h1
    intro d hd
    rcases List.mem_cons.1 hd with rfl|hd
    · exact fun hm=>absurd (M6.2 hm) (by rw [h1];exact Bool.false_ne_true)
    · exact ih h d hd
  · cases h
def b0Z (X:Cy) (body:Code) (K:Exit→Sy→Prop):Exit→Sy→Prop
 | .normal,st=>U8 X body st K
 |_,_=>False
theorem b5K {d:Nat}:∀(ps:List Nat) (vs:List Value) (t:Array Value),d∉ps→(b2S ps vs t)[d]?=t[d]?
 | [],_,t,_=>by simp [b2S]
 |p::ps, [],t,_=>by simp [b2S]
 |p::ps,v::vs,t,h=>by
  simp only [List.mem_cons,not_or]at h
  simp only [b2S]
  rw [b5K ps vs _ h.2,Array.getElem?_setIfInBounds_ne (fun e=>h.1 e.symm)]
theorem b6i {H:Hp} {w W W':World} {a:Act} {st:St} {B:Nat} (hc:Cls (cx X w0 bor) st.H st.nk st.w W) (hf:Fx (bs st.H) W W'):KeepsFrom B W W':=
 ⟨hf.size,fun k o _ hk ho=>by
  rw [hf.block k (Array.getElem?_eq_some_iff.1 hk).1 fun b hb e=> ?_]
  · exact hk
  · subst e
    obtain⟨j,e,he,hbe⟩:=D0.1 hb
    obtain⟨cs,t,f,hcl⟩:=a6F (hc.own j e he) hbe
    rw [hcl]at hk;cases hk;simp [Obj.isCells]at ho⟩
def c3W (A:Nat→Prop) (X:Cy) (w0:World) (bor:List Nat) (H:Hp) (w:World) (a:Act) (sy:Sy) (O:Nat→Prop) (W:World):Prop:=
 ∃st1,Sim A st1 sy∧Rel (cx X w0 bor) st1 a W∧Fx (bs H) w W∧(∀b,b∈bs st1.H→b∈bs H∨w.heap.size≤b)∧∀b,b∈bs st1.H→O b
theorem a5A {A B:World} (hg:A.grownBy B none) {k:Nat} {o:Obj} (h:A.heap[k]?=some o):B.heap[k]?=some o:=
 (hg.block k (Array.getElem?_eq_some_iff.1 h).1 (by simp)).trans h
theorem c2f (hA:∀b,(w0.heap.size≤b∨b∈bor)→A b) (hP:POK X.P X.tt) (hs:Sim A st sy) (hr:Rel (cx X w0 bor) st a w) {g:Operand} {ps:Array Tmp} {assign body:Code} {gf:FuncId} {caps:List D} {vl:List Value} {xs:List (List D)} {Q:Exit→Act→World→Prop}
 (hg:a.eval g= .func (.func gf) #[] vl.toArray) (hcaps:j3 (okS A (now st w)) w caps vl) (hit:a7Z X.P gf caps xs) (heg:∀args w,(callFunc gf args).run X.P w= .ok (.enter gf args) w) (hps:∀x,x∈xs→x.length=ps.size)
 {fz:List Nat} (hak:S7 fz assign=true) (hbk:S7 fz body=true) (hfree:a8b fz ps.toList=true)
 {σ:Type} (f:σ→Sy) (fx:Exit→σ→Sy) (R:List (List D)→σ→Prop) (RX:Exit→List (List D)→σ→Prop) (s0:σ) (hstart:i4 sy (f s0)) (h0:R [] s0)
 (hdom:∀s d x,w8 (f s).T d=some x→d∈fz) (hdomx:∀e s d x,w8 (fx e s).T d=some x→d∈fz)
 (hround:∀(pre:List (List D)) (s:σ) (x:List D),pre++ [x]<+:xs→R pre s→∃RK:Exit→Sy→Prop,(∀e sy,RK e sy→c1Q f fx R RX (pre++ [x]) e sy)∧b3f { X with dfs:= []} ps.toList x (f s) fun st1=>U8 { X with dfs:= []} assign st1 (b0Z { X with dfs:= []} body RK))
 (hdone:∀(D:Nat) (s:σ) (W:World),w.heap.size≤D→W.heap[D]?=some (.deferred (some []))→R xs s→Mid A { X with dfs:=a6f D::X.dfs} w0 bor st.H w { a with defers:=a6f D::a.defers} (f s) W→Q .normal { a with defers:=a6f D::a.defers} W)
 (hstop:∀(dd:Nat) (e:Exit) (pre:List (List D)) (s:σ) (W:World),w.heap.size≤dd→W.heap[dd]?=some (.deferred (some []))→pre<+:xs→RX e pre s→(e= .ret∨∃id,e= .exit id)→Mid A { X with dfs:=a6f dd::X.dfs} w0 bor st.H w { a with defers:=a6f dd::a.defers} (fx e s) W→Q e { a with defers:=a6f dd::a.defers} W):
 (Code.rangeFunc g ps assign body).wp X.P Q a w:=by
 have hw0:w0.heap.size≤w.heap.size:=hr.cls.fx0.size
 obtain⟨X0,hX0⟩:∃X0:Cy,X0= { X with dfs:= []}:=⟨_,rfl⟩
 rw [←hX0]at hround
 have hP0:POK X0.P X0.tt:=by rw [hX0];exact hP
 have hXP:X.P=X0.P:=by rw [hX0]
 have hsz:a.tmps.size=X.nt:=hr.size.1
 obtain⟨a0,ha0⟩:∃a0:Act,a0= { a with defers:= []}:=⟨_,rfl⟩
 obtain⟨J0,hJ0⟩:∃J0:Sy→(Nat→Prop)→World→Prop,J0=c3W A X0 w0 bor st.H w a0:=⟨_,rfl⟩
 have toMid:∀ {sy':Sy} {st':St} {a':Act} {W:World} (ds:List Deferred),Sim A st' sy'→Rel (cx X0 w0 bor) st' a' W→a6p fz a a'→(∀d x,w8 sy'.T d=some x→d∈fz)→Fx (bs st.H) w W→(∀b,b∈bs st'.H→b∈bs st.H∨w.heap.size≤b)→∃st1,Sim A st1 sy'∧Rel (cx { X with dfs:=ds} w0 bor) st1 { a with defers:=ds} W∧st1.H=st'.H:=by
  intro sy' st' a' W ds h1 h2 h3 h4 h5 h6
  obtain⟨g1,g2⟩:=c4K (a:= { a with defers:=ds}) h1 h2 h3 (by rw [hX0];exact hsz) h4 ds rfl
  exact⟨_,g1,by rw [hX0]at g2;exact g2,rfl⟩
 --the state between two rounds,at the act behind the loop
 have toEnd:∀ {sy':Sy} {O:Nat→Prop} {W:World} (dd:Nat),J0 sy' O W→(∀d x,w8 sy'.T d=some x→d∈fz)→Mid A { X with dfs:=a6f dd::X.dfs} w0 bor st.H w { a with defers:=a6f dd::a.defers} sy' W:=by
  intro sy' O W D h hd
  rw [hJ0]at h
  obtain⟨st1,g1,g2,g3,g4,g5⟩:=h
  obtain⟨st2,e1,e2,e3⟩:=toMid (a6f D::X.dfs) g1 g2 (by rw [ha0];exact fun _ _=>rfl) hd g3 g4
  rw [show a.defers=X.dfs from hr.dfs]
  exact⟨st2,e1,e2,g3,by rw [e3];exact g4⟩
 have J0turn:∀ {sy':Sy} {O:Nat→Prop} {W W':World} {row:Option Nat},J0 sy' O W→W.grownBy W' row→(∀r,row=some r→w.heap.size≤r∧∃o:Obj,W.heap[r]?=some o∧b9K o=true)→J0 sy' O W':=by
  intro sy' O W W' row h hg hrow
  rw [hJ0]at h⊢
  obtain⟨st1,hs,hr,hf,hb,hO⟩:=h
  obtain⟨h1,h2⟩:=Sx.turn hs hr hg fun r e=>⟨Nat.le_trans hw0 (hrow r e).1,(hrow r e).2⟩
  refine⟨_,h1,h2,⟨hg.os.trans hf.os,hg.tape.trans hf.tape,hg.output.trans hf.output,Nat.le_trans hf.size hg.size,fun i hi hn=> ?_⟩,hb,hO⟩
  rw [hg.block i (Nat.lt_of_lt_of_le hi hf.size) fun e=>by have:=(hrow i e.symm).1;omega]
  exact hf.block i hi hn
 refine(wpIn_wide (n:=2)).1 (wpIn_rangeFunc ?_)
 intro fn hfn
 obtain⟨rec,hrec⟩:∃rec:LoopState→Option Code→Loop,rec=fun st pe=> { state:=st,pending:=pe,fn,tmps:=a.tmps,params:=ps,assign,body,defers:=w.heap.size}:=⟨_,rfl⟩
 obtain⟨W1,hW1⟩:∃W1,(w.alloc (.deferred (some []))).alloc (.loop (rec .ready none))=W1:=⟨_,rfl⟩
 obtain⟨L,hL⟩:∃L,L=w.heap.size+1:=⟨_,rfl⟩
 have hsize1:W1.heap.size=w.heap.size+2:=by rw [←hW1];simp
 have hL1:W1.heap[L]?=some (.loop (rec .ready none)):=by
  rw [←hW1,hL];have:=World.alloc_heap_new (w.alloc (.deferred (some []))) (.loop (rec .ready none));rwa [World.size_alloc]at this
 have hK1:W1.heap[w.heap.size]?=some (.deferred (some [])):=by
  rw [←hW1];exact(Below.heap_alloc _ _ _ (by simp)).trans (World.alloc_heap_new w _)
 have hg1:w.grownBy W1 none:=by
  rw [←hW1]
  have h1:=World.grownBy_alloc w (.deferred (some [])) none
  have h2:=World.grownBy_alloc (w.alloc (.deferred (some []))) (.loop (rec .ready none)) none
  exact⟨h2.os.trans h1.os,h2.tape.trans h1.tape,h2.output.trans h1.output,Nat.le_trans h1.size h2.size,fun k hk hn=>(h2.block k (Nat.lt_of_lt_of_le hk h1.size) hn).trans (h1.block k hk hn)⟩
 obtain⟨st0,hs0,hr0,hb0⟩:=hstart.rel hA hs hr
 have hr0':Rel (cx X0 w0 bor) st0 a0 w:=by
  rw [hX0,ha0];exact⟨hr0.size,hr0.T,rfl,⟨hr0.cls.fx,hr0.cls.fx0,hr0.cls.own,hr0.cls.nd,hr0.cls.lb,hr0.cls.keys,hr0.cls.lt⟩,hr0.lo,hr0.iv⟩
 obtain⟨O0,hO0⟩:∃O0:Nat→Prop,O0=fun b=>b∈bs st0.H∨b=L∨b=w.heap.size:=⟨_,rfl⟩
 have hJ1:J0 (f s0) O0 W1:=J0turn (row:=none) (W:=w) (by rw [hJ0,hO0];exact⟨st0,hs0,hr0',Fx.refl _ _,fun b hb=> .inl (hb0 b hb),fun b hb=> .inl hb⟩) hg1 (by simp)
 refine⟨L, [{ target:= .collected w.heap.size,args:= #[]}],W1, { target:= .fn (.func gf) vl.toArray,args:= #[.func (.yield L) #[] #[]]},W1,gf,
  #[.func (.yield L) #[] #[]]++vl.toArray,W1, ?_, ?_, ?_, ?_,fun _=>by omega, ?_⟩
 · rw [←hW1,hrec,hL];exact run_enterLoop_outer _ _ _ _ _
 · simp only [resolve,hg]
   simp [go_sem]
 · intro f' _;trivial
 · simp [invoke,go_sem,heg]
 · refine(hit (okS A (now st w)) O0 W1 vl 0 L
    (fun pre O W=>(∃s,R pre s∧J0 (f s) O W)∧O L∧O w.heap.size∧W.heap[L]?=some (.loop (rec .ready none))∧W.heap[w.heap.size]?=some (.deferred (some [])))
    (fun pre W=>∃e s O,(e= .ret∨∃id,e= .exit id)∧RX e pre s∧J0 (fx e s) O W∧W.heap[L]?=some (.loop (rec .done (some (c0C e))))∧W.heap[w.heap.size]?=some (.deferred (some [])))
    (j3.mono (fun b hb=>⟨hb,hg1.block b hb.2.1 (by simp)⟩) _ _ hcaps) ?_ ?_ ?_ ?_ ?_ ⟨⟨s0,h0,hJ1⟩,by rw [hO0];exact .inr (.inl rfl),by rw [hO0];exact .inr (.inr rfl),hL1,hK1⟩).mono ?_
   · intro b hb
     refine⟨by have:=hb.2.1;simp only [now]at this;omega,fun hO=> ?_⟩
     rw [hO0]at hO
     have h1:b<w.heap.size:=hb.2.1
     rcases hO with h|h|h
     · exact hb.2.2 b (hb0 b h) rfl
     · omega
     · omega
   · intro b hb
     rw [hO0]at hb
     rcases hb with h|h|h
     · have:=hr0.cls.lt_size h;omega
     · omega
     · omega
   · rintro pre O A B ⟨⟨s,h1,h2⟩,h3,h4,h5,h6⟩ hg
     exact⟨⟨s,h1,J0turn h2 hg (by simp)⟩,h3,h4,a5A hg h5,a5A hg h6⟩
   · rintro pre A B ⟨e,s,O,h1,h2,h3,h5,h6⟩ hg
     exact⟨e,s,O,h1,h2,J0turn h3 hg (by simp),a5A hg h5,a5A hg h6⟩
   · --a round
     rintro pre x vals O W ⟨⟨s,hR,hm⟩,hOL,hOD,hl,hk⟩ hO hpre hvals
     have hlt:L<W.heap.size:=hO L hOL
     have hxm:x∈xs:=hpre.subset (by simp)
     have hy:=run_yield (P:=X.P) (args:=vals.toArray) hl (by rw [hrec];simp [←hvals.length,hps x hxm])
     rw [hrec]at hy
     rw [hJ0]at hm
     obtain⟨st1,hs1,hr1,hf1,hb1,hO1⟩:=hm
     have hs1':=hs1.now hr1.cls
     have hr1':=hr1.now
     refine⟨fn,_,assign,body,hy,roundIn_of_wpIn hfn ?_⟩
     have hz:(ps.zip vals.toArray).foldl (fun t (p,v)=>t.setIfInBounds p v) a.tmps=b2S ps.toList vals a.tmps:=by
      rw [←b8m,←Array.foldl_toList];simp
     rw [hz]
     have hvals2:j3 (okS A (now st1 W)) (now st1 W).w x vals:=j3.mono (fun b hb=>by
      refine⟨⟨⟨.inl hb.2.1, ?_⟩,hb.2.1,fun c hc e=>hb.2.2 (e▸hO1 c hc)⟩,rfl⟩
      rcases hb.1 with h|h
      · exact h.1.2
      · exact hA b (.inl (by omega))) _ _ hvals
     obtain⟨RK,hRK,hrd⟩:=hround pre s x hpre hR
     obtain⟨st2,sy2,k2,hs2,hr2,e2⟩:=b8l _ _ vals hvals2 hrd hs1' hr1'
     have e2:st2.H=st1.H:=e2
     have hk0:a6p fz a { tmps:=b2S ps.toList vals a.tmps,defers:= []}:=fun d hd=>b5K _ _ _ (b7h hfree d hd)
     have ht0:a0.tmps=a.tmps:=by rw [ha0]
     have hd0:a0.defers= []:=by rw [ha0]
     rw [ht0,hd0]at hr2
     rw [hXP]
     refine b2D L _ fz hA hP0 assign hak st2 sy2 a _ W _ _ hk0 k2 hs2 hr2 fun e st3 sy3 a3 W3 hp hk3 hs3 hlv3 hkp3=> ?_
     cases e with
     |exit id=>exact hk3.elim
     |ret=>exact hk3.elim
     |goto l=>exact hp.elim
     |panic c=>exact hp.elim
     |outgrown=>exact hp.elim
     |normal=>
     have hkeep3:KeepsFrom w.heap.size W W3:=b6i (H:=st2.H) (w:=w) (a:=a) hr2.cls hlv3.fx
     have hl3:W3.heap[L]?=some (.loop (rec .ready none)):=hkeep3.same L _ (by omega) hl rfl
     have hk3':W3.heap[w.heap.size]?=some (.deferred (some [])):=hkeep3.same _ _ (Nat.le_refl _) hk rfl
     have hlt3:L<W3.heap.size:=(Array.getElem?_eq_some_iff.1 hl3).1
     obtain⟨W2,hW2⟩:∃W2,W2=W3.putObj L (.loop { rec .ready none with state:= .busy}):=⟨_,rfl⟩
     have hg2:W3.grownBy W2 (some L):=by rw [hW2];exact grownBy_putObj' W3 L _
     have hl2:W2.heap[L]?=some (.loop { rec .ready none with state:= .busy}):=by rw [hW2];exact World.putObj_heap_same hlt3
     have hk2:W2.heap[w.heap.size]?=some (.deferred (some [])):=by rw [hW2];exact(World.putObj_heap_other (by omega)).trans hk3'
     obtain⟨hs4,hr4⟩:=Sx.turn hs3 hlv3.rel hg2 (by intro r e;cases e;exact⟨by omega,_,hl3,rfl⟩)
     refine⟨W2,by rw [hW2];exact run_beginRound hl3 (by rw [hrec]), ?_⟩
     have hO3:∀b,b∈bs st3.H→O b∨W.heap.size≤b:=fun b hb=>by
      rcases hlv3.bs b hb with h|h
      · exact .inl (hO1 b (e2▸h))
      · exact .inr h
     have hb3:∀b,b∈bs st3.H→b∈bs st.H∨w.heap.size≤b:=fun b hb=>by
      rcases hlv3.bs b hb with h|h
      · exact hb1 b (e2▸h)
      · exact .inr (Nat.le_trans hf1.size h)
     have hfx3:Fx (bs st.H) w W3:=Fx.trans hf1 hlv3.fx (fun _ h=>h) fun i hi=>hb1 i (e2▸hi)
     have hfx2:Fx (bs st.H) w W2:=⟨hg2.os.trans hfx3.os,hg2.tape.trans hfx3.tape,hg2.output.trans hfx3.output,Nat.le_trans hfx3.size hg2.size,fun i hi hn=>by
      rw [hg2.block i (Nat.lt_of_lt_of_le hi hfx3.size) (by simp;omega)];exact hfx3.block i hi hn⟩
     refine b2D L _ fz hA hP0 body hbk _ sy3 a a3 W2 _ _ hkp3 hk3 hs4 hr4 fun e st4 sy4 a4 W4 hp hk hs4 hl4 hkp4=> ?_
     have hkeep:KeepsFrom w.heap.size W2 W4:=b6i (H:=st3.H) (w:=w) (a:=a) hr4.cls hl4.fx
     have hfx4:Fx (bs st.H) w W4:=Fx.trans hfx2 hl4.fx (fun _ h=>h) fun i hi=>hb3 i hi
     have hbs4:∀b,b∈bs st4.H→b∈bs st.H∨w.heap.size≤b:=fun b hb=>by
      rcases hl4.bs b hb with h|h
      · exact hb3 b h
      · exact .inr (Nat.le_trans hfx2.size h)
     have hl4':W4.heap[L]?=some (.loop { rec .ready none with state:= .busy}):=hkeep.same L _ (by omega) hl2 rfl
     have hk4':W4.heap[w.heap.size]?=some (.deferred (some [])):=hkeep.same _ _ (Nat.le_refl _) hk2 rfl
     have hlt4:L<W4.heap.size:=(Array.getElem?_eq_some_iff.1 hl4').1
     obtain⟨O',hO'⟩:∃O':Nat→Prop,O'=fun b=>b∈bs st4.H∨b=L∨b=w.heap.size:=⟨_,rfl⟩
     have fin:∀(jump:Option Code) {sy5:Sy},i4 sy4 sy5→(∀d x,w8 sy5.T d=some x→d∈fz)→
      (Instr.endRound L jump).run X0.P W4= .ok (.bool jump.isNone) (W4.putObj L (.loop (rec (if jump.isNone then .ready else .done) jump)))∧
      (W4.putObj L (.loop (rec (if jump.isNone then .ready else .done) jump))).heap[L]?=some (.loop (rec (if jump.isNone then .ready else .done) jump))∧
      (W4.putObj L (.loop (rec (if jump.isNone then .ready else .done) jump))).heap[w.heap.size]?=some (.deferred (some []))∧J0 sy5 O' (W4.putObj L (.loop (rec (if jump.isNone then .ready else .done) jump))):=by
      intro jump sy5 hsub hdm
      have hrun:=run_endRound (P:=X0.P) jump hl4'
      obtain⟨st5,g1,g2,g3⟩:=hsub.rel hA hs4 hl4.rel
      obtain⟨st6,i1,i2,i3⟩:=toMid [] g1 g2 hkp4 hdm hfx4 fun b hb=>hbs4 b (g3 b hb)
      refine⟨by rw [hrec]at hrun⊢;exact hrun,World.putObj_heap_same hlt4,(World.putObj_heap_other (by omega)).trans hk4', ?_⟩
      refine J0turn (W:=W4) (row:=some L) ?_ (grownBy_putObj' W4 L _) (by intro r e;cases e;exact⟨by omega,_,hl4',rfl⟩)
      rw [hJ0]
      refine⟨st6,i1,by rw [hX0,ha0];exact i2,hfx4,by rw [i3];exact fun b hb=>hbs4 b (g3 b hb), ?_⟩
      rw [i3,hO']
      exact fun b hb=> .inl (g3 b hb)
     have hk:=hRK _ _ hk
     cases e with
     |normal=>
      obtain⟨s',q1,q2⟩:=hk
      obtain⟨f1,f2,f3,f4⟩:=fin none q2 (hdom s')
      refine⟨_,_,f1, .inl ⟨rfl,O',⟨⟨s',q1,f4⟩,by rw [hO'];exact .inr (.inl rfl),by rw [hO'];exact .inr (.inr rfl),f2,f3⟩, ?_, ?_, ?_⟩⟩
      · have h1:=hg2.size;have h2:=hkeep.size;have h3:=hkeep3.size;simp;omega
      · intro b hb
        rw [hO']at hb
        rcases hb with h|h|h
        · refine⟨by have:=hl4.rel.cls.lt_size h;simpa using this, ?_⟩
          rcases hl4.bs b h with h|h
          · exact hO3 b h
          · exact .inr (Nat.le_trans hkeep3.size (Nat.le_trans hg2.size h))
        · subst h;exact⟨by simpa using hlt4, .inl hOL⟩
        · subst h;exact⟨by simp;omega, .inl hOD⟩
      · intro b hb hn
        have hne:b≠L:=fun e=>hn (e▸hOL)
        rw [World.putObj_heap_other hne]
        have hb3':b<W3.heap.size:=Nat.lt_of_lt_of_le hb hkeep3.size
        rw [hl4.fx.block b (Nat.lt_of_lt_of_le hb3' hg2.size) fun c hc e=>by
         rcases hO3 c hc with h|h
         · exact hn (e▸h)
         · omega]
        rw [hg2.block b hb3' (by simpa using hne)]
        exact hlv3.fx.block b hb fun c hc e=>hn (e▸hO1 c (e2▸hc))
     |ret=>
      obtain⟨s',q1,q2⟩:=hk
      obtain⟨f1,f2,f3,f4⟩:=fin (some .ret) q2 (hdomx _ s')
      exact⟨_,_,f1, .inr ⟨rfl, .ret,s',O', .inl rfl,q1,f4,f2,f3⟩⟩
     |exit id=>
      obtain⟨s',q1,q2⟩:=hk
      obtain⟨f1,f2,f3,f4⟩:=fin (some (.exit id)) q2 (hdomx _ s')
      exact⟨_,_,f1, .inr ⟨rfl, .exit id,s',O', .inr ⟨id,rfl⟩,q1,f4,f2,f3⟩⟩
     |goto l=>exact hp.elim
     |panic c=>exact hp.elim
     |outgrown=>exact hp.elim
   · rintro e W2 ⟨⟨v,rfl⟩,(⟨O,⟨s,hR,hm⟩,hOL,hOD,hl,hk⟩|⟨pre,hpre,e,s,O,he,hRX,hm,hl,hk⟩)⟩
     · refine⟨none,_,by have:=run_endLoop (P:=X.P) hl (by rw [hrec];simp);rw [hrec]at this;exact this, ?_⟩
       exact hdone _ s _ (Nat.le_refl _) ((World.putObj_heap_other (by omega)).trans hk) hR (toEnd _ (J0turn hm (grownBy_putObj' W2 L _) (by intro r e;cases e;exact⟨by omega,_,hl,rfl⟩)) (hdom s))
     · refine⟨some (c0C e),_,by have:=run_endLoop (P:=X.P) hl (by rw [hrec];simp);rw [hrec]at this;exact this, ?_⟩
       rcases he with rfl|⟨id,rfl⟩
       · refine wpIn_ret ?_
         exact hstop _ .ret pre s _ (Nat.le_refl _) ((World.putObj_heap_other (by omega)).trans hk) hpre hRX (.inl rfl) (toEnd _ (J0turn hm (grownBy_putObj' W2 L _) (by intro r e;cases e;exact⟨by omega,_,hl,rfl⟩)) (hdomx _ s))
       · refine wpIn_exit ?_
         exact hstop _ (.exit id) pre s _ (Nat.le_refl _) ((World.putObj_heap_other (by omega)).trans hk) hpre hRX (.inr ⟨id,rfl⟩) (toEnd _ (J0turn hm (grownBy_putObj' W2 L _) (by intro r e;cases e;exact⟨by omega,_,hl,rfl⟩)) (hdomx _ s))
end
end Go.Sx
namespace Go.Sx
open Go Go.RowKit
structure a5G (X:Cy) (g:Operand) (ps:Array Tmp) (assign body:Code) (st:Sy) (K:Exit→Sy→Prop):Prop where
 ex:∃(gf:FuncId) (caps:List D) (xs:List (List D)) (fz:List Nat) (σ:Type) (f:σ→Sy) (fx:Exit→σ→Sy) (R:List (List D)→σ→Prop) (RX:Exit→List (List D)→σ→Prop) (s0:σ),
  evY st g=some (.fn gf [] caps)∧V9 caps=true∧a7Z X.P gf caps xs∧(∀args w,(callFunc gf args).run X.P w= .ok (.enter gf args) w)∧(∀x,x∈xs→x.length=ps.size)∧S7 fz assign=true∧S7 fz body=true∧a8b fz ps.toList=true∧
  i4 st (f s0)∧R [] s0∧(∀s d x,w8 (f s).T d=some x→d∈fz)∧(∀e s d x,w8 (fx e s).T d=some x→d∈fz)∧
  (∀(pre:List (List D)) (s:σ) (x:List D),pre++ [x]<+:xs→R pre s→∃RK:Exit→Sy→Prop,(∀e sy,RK e sy→c1Q f fx R RX (pre++ [x]) e sy)∧b3f { X with dfs:= []} ps.toList x (f s) fun st1=>U8 { X with dfs:= []} assign st1 (b0Z { X with dfs:= []} body RK))∧
  (∀s,R xs s→K .normal (f s))∧(∀e pre s,pre<+:xs→RX e pre s→(e= .ret∨∃id,e= .exit id)→K e (fx e s))
def a6v (X:Cy):Code→Sy→(Exit→Sy→Prop)→Prop
 | .seq a b,st,K=>a6v X a st fun e st'=>match e with
  | .normal=>a6v X b st' K
  |e=>K e st'
 | .block id c,st,K=>a6v X c st fun e st'=>match e with
  | .exit j=>(match Nat.beq j id with|true=>K .normal st'|false=>K (.exit j) st')
  |e=>K e st'
 | .cond c t e,st,K=>match evY st c with
  |some (.v (.bool b))=>VIf b (a6v X t st K) (a6v X e st K)
  |_=>False
 | .scope c,st,K=>a6v X c st K
 | .rangeFunc g ps assign body,st,K=>a5G X g ps assign body st K
 |c,st,K=>∀ds,U8 { X with dfs:=ds} c st K
def a8z (ds ds':List Deferred) (w w':World):Prop:=∃l:List Nat,ds'=l.map a6f++ds∧l.Nodup∧∀D,D∈l→w.heap.size≤D∧w'.heap[D]?=some (.deferred (some []))
theorem a8z.refl (ds:List Deferred) (w w':World):a8z ds ds w w':=⟨[],rfl,by simp,by simp⟩
section
variable {A : Nat → Prop} {X : Cy} {w0 : World} {bor : List Nat}
theorem c3l {H:Hp} {nk:Nat} {ws w:World} {D:Nat} {o:Obj} (hc:Cls (cx X w0 bor) H nk ws w) (hD:w.heap[D]?=some o) (ho:o.isCells=false):∀b,b∈bs H→b≠D:=by
 intro b hb e
 subst e
 obtain⟨j,e,he,hbe⟩:=D0.1 hb
 obtain⟨cs,t,f,hcl⟩:=a6F (hc.own j e he) hbe
 rw [hcl]at hD;cases hD;simp [Obj.isCells]at ho
theorem a8z.trans {X1:Cy} {ds ds1 ds2:List Deferred} {H:Hp} {nk:Nat} {ws w w1 w2:World} (h:a8z ds ds1 w w1) (k:a8z ds1 ds2 w1 w2) (hc:Cls (cx X1 w0 bor) H nk ws w1) (hf:Fx (bs H) w1 w2) (hw:w.heap.size≤w1.heap.size):a8z ds ds2 w w2:=by
 obtain⟨l,rfl,hn,hl⟩:=h
 obtain⟨r,rfl,hm,hr⟩:=k
 have hlt:∀D,D∈l→D<w1.heap.size:=fun D hD=>(Array.getElem?_eq_some_iff.1 (hl D hD).2).1
 refine⟨r++l,by simp, ?_,fun D hD=> ?_⟩
 · rw [List.nodup_append]
   refine⟨hm,hn,fun x hx y hy e=> ?_⟩
   subst e
   have:=(hr x hx).1;have:=hlt x hy;omega
 · rcases List.mem_append.1 hD with h|h
   · exact⟨Nat.le_trans hw (hr D h).1,(hr D h).2⟩
   · refine⟨(hl D h).1, ?_⟩
     rw [hf.block D (hlt D h) (c3l hc (hl D h).2 rfl)]
     exact(hl D h).2
theorem Lv.hop {X1 X2:Cx} {H:Hp} {w w1 w2:World} {st1 st2:St} {a1 a2:Act} (h:Lv X1 H w st1 a1 w1) (k:Lv X2 st1.H w1 st2 a2 w2):Lv X2 H w st2 a2 w2:=
 ⟨k.rel,Fx.trans h.fx k.fx (fun _ h=>h) fun i hi=>h.bs i hi,fun b hb=>by
  rcases k.bs b hb with h1|h1
  · exact h.bs b h1
  · exact .inr (Nat.le_trans h.fx.size h1)⟩
theorem c1X (hA:∀b,(w0.heap.size≤b∨b∈bor)→A b) (hP:POK X.P X.tt) (c:Code):∀(st:St) (sy:Sy) (a:Act) (w:World) (ds:List Deferred) (K:Exit→Sy→Prop) (Q:Exit→Act→World→Prop),a6v X c sy K→Sim A st sy→Rel (cx { X with dfs:=ds} w0 bor) st a w→
 (∀e st' sy' a' w' ds',plain e→K e sy'→Sim A st' sy'→Lv (cx { X with dfs:=ds'} w0 bor) st.H w st' a' w'→a8z ds ds' w w'→Q e a' w')→c.wp X.P Q a w:=by
 have plainC:∀(c:Code) (st:St) (sy:Sy) (a:Act) (w:World) (ds:List Deferred) (K:Exit→Sy→Prop) (Q:Exit→Act→World→Prop),(∀ds,U8 { X with dfs:=ds} c sy K)→Sim A st sy→Rel (cx { X with dfs:=ds} w0 bor) st a w→
  (∀e st' sy' a' w' ds',plain e→K e sy'→Sim A st' sy'→Lv (cx { X with dfs:=ds'} w0 bor) st.H w st' a' w'→a8z ds ds' w w'→Q e a' w')→c.wp X.P Q a w:=
  fun c st sy a w ds K Q h hs hr hQ=>a4j (X:= { X with dfs:=ds}) hA hP c st sy a w K Q (h ds) hs hr fun e st' sy' a' w' hp hk hs' hl=>hQ e st' sy' a' w' ds hp hk hs' hl (a8z.refl _ _ _)
 induction c with
 |seq x y ihx ihy=>
  intro st sy a w ds K Q h hs hr hQ
  refine wp_seq (ihx st sy a w ds _ _ h hs hr fun e st1 sy1 a1 w1 ds1 hp hk hs1 hl hm=> ?_)
  cases e with
  |normal=>exact ihy st1 sy1 a1 w1 ds1 K Q hk hs1 hl.rel fun e st2 sy2 a2 w2 ds2 hp hk2 hs2 hl2 hm2=>hQ e st2 sy2 a2 w2 ds2 hp hk2 hs2 (Lv.hop hl hl2) (hm.trans hm2 hl.rel.cls hl2.fx hl.fx.size)
  |exit id=>exact hQ _ _ _ _ _ _ hp hk hs1 hl hm
  |ret=>exact hQ _ _ _ _ _ _ hp hk hs1 hl hm
  |goto l=>exact hp.elim
  |panic c=>exact hp.elim
  |outgrown=>exact hp.elim
 |block id c ih=>
  intro st sy a w ds K Q h hs hr hQ
  refine wp_block (ih st sy a w ds _ _ h hs hr fun e st1 sy1 a1 w1 ds1 hp hk hs1 hl hm=> ?_)
  cases e with
  |normal=>exact hQ _ _ _ _ _ _ hp hk hs1 hl hm
  |exit j=>
   simp only [Exit.inBlock]
   simp only at hk
   split at hk
   · rename_i hb
     rw [if_pos (B9 hb)]
     exact hQ .normal _ _ _ _ _ trivial hk hs1 hl hm
   · rename_i hb
     rw [if_neg (a2Y hb)]
     exact hQ _ _ _ _ _ _ hp hk hs1 hl hm
  |ret=>exact hQ _ _ _ _ _ _ hp hk hs1 hl hm
  |goto l=>exact hp.elim
  |panic c=>exact hp.elim
  |outgrown=>exact hp.elim
 |cond c x y ihx ihy=>
  intro st sy a w ds K Q h hs hr hQ
  simp only [a6v]at h
  split at h
  · rename_i b hcd
    obtain⟨s,h1,h2,_⟩:=n8 hs hcd
    have:=h2.sc;subst this
    have hb:a.eval c= .bool b:=by simpa [den]using (hr.ev c _ h1).2
    cases b with
    |true=>exact wp_cond_true hb (ihx st sy a w ds K Q h hs hr hQ)
    |false=>exact wp_cond_false hb (ihy st sy a w ds K Q h hs hr hQ)
  · exact h.elim
 |scope c ih=>
  intro st sy a w ds K Q h hs hr hQ
  simp only [a6v]at h
  refine wp_scope_straight (ih st sy a w ds K _ h hs hr fun e st1 sy1 a1 w1 ds1 hp hk hs1 hl hm=> ?_)
  cases e with
  |normal=>exact hQ _ _ _ _ _ _ hp hk hs1 hl hm
  |exit j=>exact hQ _ _ _ _ _ _ hp hk hs1 hl hm
  |ret=>exact hQ _ _ _ _ _ _ hp hk hs1 hl hm
  |goto l=>exact hp.elim
  |panic c=>exact hp.elim
  |outgrown=>exact hp.elim
 |rangeFunc g ps assign body _ _=>
  intro st sy a w ds K Q h hs hr hQ
  have h:a5G X g ps assign body sy K:=h
  obtain⟨gf,caps,xs,fz,σ,f,fx,R,RX,s0,hg,hcl,hit,heg,hps,hasg,hbk,hfree,hst,h0,hdom,hdomx,hround,hdone,hstop⟩:=h.ex
  obtain⟨s,h1,h2,_⟩:=n8 hs hg
  have hev:=(hr.ev g _ h1).2
  have h2':=i0.mono (a4T hr.cls) (fun _ _ h=>h) _ _ h2
  have hrep:=a3U (H:=st.H) _ _ h2' (by simpa [a0R,V9]using hcl)
  simp only [Rep]at hrep
  obtain⟨p,q,e1,e2,e3⟩:=hrep
  have hp0:p= #[]:=by
   cases hp:p.toList with
   |nil=>exact Array.toList_inj.1 (by simp [hp])
   |cons v l=>rw [hp]at e2;simp [j3]at e2
  refine c2f (X:= { X with dfs:=ds}) hA hP hs hr (vl:=q.toList) (by rw [hev,e1,hp0]) e3 hit heg hps hasg hbk hfree f fx R RX s0 hst h0 hdom hdomx hround (fun D s W hD hdef hR hm=> ?_) fun D e pre s W hD hdef hpre hRX he hm=> ?_
  · obtain⟨st1,g1,g2,g3,g4⟩:=hm.ex
    exact hQ .normal st1 _ _ W _ trivial (hdone s hR) g1 ⟨g2,g3,g4⟩ ⟨[D],rfl,by simp,by simpa using ⟨hD,hdef⟩⟩
  · obtain⟨st1,g1,g2,g3,g4⟩:=hm.ex
    exact hQ e st1 _ _ W _ (by rcases he with rfl|⟨id,rfl⟩<;>trivial) (hstop e pre s hpre hRX he) g1 ⟨g2,g3,g4⟩ ⟨[D],rfl,by simp,by simpa using ⟨hD,hdef⟩⟩
 |_=>exact plainC _
end
end Go.Sx
namespace Go.Sx
open Go Go.RowKit
theorem b2f {X:Cy} {ds:List Deferred} {st:Sy}:∀rs:List ResultVar,a1x { X with dfs:=ds} st rs=a1x X st rs
 | []=>rfl
 | .tmp t::r=>by simp only [a1x,b2f r]
 | .cell a t::r=>by simp only [a1x,b2f r]
section
variable {A : Nat → Prop} {X : Cy} {w0 : World} {bor : List Nat} {sy : Sy} {a : Act}
theorem b3P (hA:∀b,(w0.heap.size≤b∨b∈bor)→A b) (hP:POK X.P X.tt) {fn:Func} {Qr:D→Prop} {Rr:Ending→World→Prop} {n:Nat} {ds:List Deferred}
 (hk:match a1x X sy fn.results.toList with
  |some [s]=>a3m sy s Qr
  |some l=>a3m sy (.tup l) Qr
  |none=>False)
 (hR:∀v r w',Qr r→Rep (fun b=>A b∧b<w'.heap.size) w' r v→Fx bor w0 w'→Rr (.returned v) w'):∀(l:List Nat) (st:St) (W:World),Sim A st sy→Rel (cx { X with dfs:=ds} w0 bor) st a W→l.Nodup→(∀D,D∈l→w0.heap.size≤D∧W.heap[D]?=some (.deferred (some [])))→
 LeavesInM Fence.wide n X.P fn a.tmps Rr (l.map a6f) .returning W
 | [],st,W,hs,hr,_,_=>by
  have main:∀ {r:D} {s:SV},a3m sy r Qr→i0 (okS A st) st.w (D7 st) r s→(results fn a.tmps).run X.P W= .ok (den st.H s) W→∃v,(results fn a.tmps).run X.P W= .ok v W∧Rr (.returned v) W:=by
   intro r s hret hrel hrun
   obtain⟨r',hq,hrp⟩:=b2c hA hret hs hr hrel
   exact⟨_,hrun,hR _ _ _ hq hrp hr.cls.fx0⟩
  show∃v,(results fn a.tmps).run X.P W= .ok v W∧Rr (.returned v) W
  cases hres:a1x X sy fn.results.toList with
  |none=>rw [hres]at hk;exact hk.elim
  |some l=>
   rw [hres]at hk
   rw [←b2f (ds:=ds)]at hres
   obtain⟨l',h1,h2⟩:=a4m (X:= { X with dfs:=ds}) (w0:=w0) (bor:=bor) hs hres
   have hrun:=a2X (X:=cx { X with dfs:=ds} w0 bor) hP.tt hr h1
   match l,l',h2,hk,hrun with
   | [s], [s'],h2,hk,hrun=>exact main hk h2.1 hrun
   | [], [],h2,hk,hrun=>exact main (s:= .tup []) hk (by simp only [i0];exact .inl ⟨[],rfl,trivial⟩) (by simpa [den,a8s,cx]using hrun)
   |x::y::l,x'::y'::l',h2,hk,hrun=>exact main (s:= .tup (x'::y'::l')) hk (by simp only [i0];exact .inl ⟨_,rfl,h2⟩) (by simpa [den,a8s,cx]using hrun)
   | [],_::_,h2,_,_=>simp [d8]at h2
   | [_], [],h2,_,_=>simp [d8]at h2
   | [_],_::_::_,h2,_,_=>simp [d8]at h2
   |_::_::_, [],h2,_,_=>simp [d8]at h2
   |_::_::_, [_],h2,_,_=>simp [d8]at h2
 |D::l,st,W,hs,hr,hn,hl=>by
  obtain⟨h1,h2⟩:=hl D List.mem_cons_self
  rw [List.nodup_cons]at hn
  refine⟨by simp, .inl ⟨D,_,rfl,run_takeDeferred h2, ?_⟩⟩
  obtain⟨g1,g2⟩:=turn hs hr (grownBy_putObj' W D (.deferred none)) fun r e=>by cases e;exact⟨h1,_,h2,rfl⟩
  refine b3P hA hP hk hR l _ _ g1 g2 hn.2 fun D' hD'=>⟨(hl D' (List.mem_cons_of_mem _ hD')).1, ?_⟩
  have hne:D'≠D:=fun e=>hn.1 (by rw [←e];exact hD')
  rw [World.putObj_heap_other (by first|exact hne|exact hne.symm)]
  exact(hl D' (List.mem_cons_of_mem _ hD')).2
end
theorem c4q {X:Cy} (hP:POK X.P X.tt) {f:FuncId} {fn:Func} {c:Code} (args:List D) {Qr:D→Prop} (hf:X.P.funcs[f]?=some fn) (hb:fn.body=some c) (hn:X.nt=fn.ntmps) (hl:args.length≤fn.ntmps)
 (h:a6v X c ⟨a2H 0 args, [],0⟩ (b9O X fn.results.toList Qr)) (hg:fn.ntmps≤R0:=by exact Nat.le_of_ble_eq_true rfl):l8 X.P f args Qr:=by
 intro ok w vl hrep hok
 have hA:∀b,(w.heap.size≤b∨b∈([]:List Nat))→(fun b=>b<w.heap.size→ok b) b:=fun b hb h=>by
  rcases hb with hb|hb
  · omega
  · cases hb
 refine(callsIn_wide (n:=2)).1 (callsIn_of_wp_marks hf hb trivial (wpIn_wide.2 (c1X (A:=fun b=>b<w.heap.size→ok b) (w0:=w) (bor:= []) hA hP c ⟨a3Z 0 (vs vl), [],0,w,w.heap.size, []⟩ ⟨a2H 0 args, [],0⟩ _ _ [] _ _ h ?_ ?_ fun e st' sy' a' w' ds' hp hk hs' hlv hm=> ?_)) rfl)
 · refine⟨fun d x hx=> ?_,fun k e he=>by simp [o4]at he,rfl,fun j _=>a4l,fun _ _=>rfl⟩
   obtain⟨_,h2⟩:=a2P hx
   obtain⟨y,h3,h4⟩:=hrep.get h2
   right
   refine⟨.v y,a5o (Nat.zero_le _) ?_,Rep.rel _ _ (Rep.mono (fun b hb=>⟨⟨⟨.inl (hok b hb),fun _=>hb⟩,hok b hb,fun c hc=>by simp [bs]at hc⟩,rfl⟩) _ _ h4)⟩
   rw [a6L,h3];rfl
 · refine⟨by simp [cx,hn,←hrep.length];omega,fun d s hs=> ?_,rfl,Cls.nil (cx { X with dfs:= []} w []) 0,Nat.le_refl _,by simp⟩
   obtain⟨_,h2⟩:=a2N (n:=0) hs
   simp only [Nat.sub_zero]at h2
   rw [a6L]at h2
   cases hv:vl[d]? with
   |none=>rw [hv]at h2;cases h2
   |some y=>
    rw [hv]at h2
    cases h2
    right
    have hlt:=(List.getElem?_eq_some_iff.1 hv).1
    rw [R9,if_pos (by have:=hrep.length;omega),Array.getElem?_append_left (by simpa using hlt)]
    simpa [den]using hv
 · obtain⟨l,rfl,hnd,hD⟩:=hm
   have fin:(match a1x X sy' fn.results.toList with
    |some [s]=>a3m sy' s Qr
    |some l=>a3m sy' (.tup l) Qr
    |none=>False)→LeavesInM Fence.wide 2 X.P fn a'.tmps (fun e w'=>∃v r,e= .returned v∧Qr r∧Rep (fun b=>ok b∨(w.heap.size≤b∧b<w'.heap.size)) w' r v∧Below w.heap.size w w') a'.defers .returning w':=by
    intro hk
    rw [show a'.defers=l.map a6f from by rw [show a'.defers=_ from hlv.rel.dfs];simp [cx]]
    refine b3P hA hP hk (fun v r w' hq hrp hfx=>⟨v,r,rfl,hq,Rep.mono (fun b hb=>⟨?_,rfl⟩) _ _ hrp,hfx.below⟩) l st' w' hs' hlv.rel hnd hD
    by_cases hlt:b<w.heap.size
    · exact .inl (hb.1 hlt)
    · exact .inr ⟨by omega,hb.2⟩
   cases e with
   |normal=>exact fin hk
   |ret=>exact fin hk
   |exit id=>exact hk.elim
   |goto l=>exact hp.elim
   |panic c=>exact hp.elim
   |outgrown=>exact hp.elim
end Go.Sx
namespace Go.Sx
open Go Go.RowKit
def a6W (ops:Array Oper) (m i:Nat):Bool:=match ops[m]? with
 |some o=>o.after.toList.any fun e=>Region.binds .any e&&Nat.beq e.on i
 |none=>false
def b4C (ops:Array Oper):Bool:=(List.range ops.size).all fun m=>match ops[m]? with
 |some o=>o.after.toList.all fun e=> !Region.binds .any e||Nat.blt e.on m
 |none=>true
def c5h (ops:Array Oper) (j:Nat):Bool:=(List.range j).all fun i=>(List.range (j+1)).any fun m=>Nat.blt i m&&a6W ops m i
def c1b (ops:Array Oper) (j:Nat):Bool:=(List.range ops.size).all fun k=>Nat.ble k j||a6W ops k (k-1)
def c2J (ops:Array Oper) (j:Nat):Bool:=(List.range j).all fun i=>match ops[i]? with
 |some o=>match o.guard with|some (g,_)=>Nat.blt g j|none=>true
 |none=>true
def a7d (ops:Array Oper) (j:Nat):Bool:=b4C ops&&(c5h ops j&&(c1b ops j&&(c2J ops j&&Nat.blt j ops.size)))
theorem a9v {ops:Array Oper} {m i:Nat}:a6W ops m i=true↔∃o e,ops[m]?=some o∧e∈o.after.toList∧Region.binds .any e=true∧e.on=i:=by
 unfold a6W
 constructor
 · intro h
   split at h
   · rename_i o ho
     obtain⟨e,h1,h2⟩:=List.any_eq_true.1 h
     simp only [Bool.and_eq_true]at h2
     exact⟨o,e,ho,h1,h2.1,B9 h2.2⟩
   · cases h
 · rintro⟨o,e,ho,h1,h2,h3⟩
   rw [ho]
   exact List.any_eq_true.2 ⟨e,h1,by simp [h2,h3]⟩
theorem b5E {ops:Array Oper} (h:b4C ops=true) {m i:Nat} (hb:a6W ops m i=true):i<m∧m<ops.size:=by
 obtain⟨o,e,ho,h1,h2,h3⟩:=a9v.1 hb
 have hm:m<ops.size:=(Array.getElem?_eq_some_iff.1 ho).1
 have h4:=List.all_eq_true.1 h m (List.mem_range.2 hm)
 rw [ho]at h4
 have h5:=List.all_eq_true.1 h4 e h1
 simp [h2]at h5
 exact⟨by omega,hm⟩
theorem a3P {ops:Array Oper} {listed:Array Bool} (hsz:listed.size=ops.size) {i:Nat}:i∈Region.ready .any ops listed↔i<ops.size∧listed[i]?=some false∧∀k,a6W ops i k=true→listed[k]?=some true:=by
 unfold Region.ready
 rw [List.mem_filter,List.mem_range]
 constructor
 · rintro⟨h1,h2⟩
   simp only [Bool.and_eq_true]at h2
   have hl:i<listed.size:=by omega
   refine⟨h1,by simpa [Array.getD,hl]using h2.1,fun k hk=> ?_⟩
   obtain⟨o,e,ho,g1,g2,g3⟩:=a9v.1 hk
   rw [ho]at h2
   have:=h2.2
   simp only [Option.map_some,Option.getD_some]at this
   rw [←Array.all_toList]at this
   have:=List.all_eq_true.1 this e g1
   simp only [g2,Bool.not_true,Bool.false_or,g3]at this
   by_cases hkl:k<listed.size
   · simpa [Array.getD,hkl]using this
   · simp [Array.getD,hkl]at this
 · rintro⟨h1,h2,h3⟩
   refine⟨h1, ?_⟩
   have hl:i<listed.size:=by omega
   rw [Array.getElem?_eq_getElem hl]at h2
   simp only [Bool.and_eq_true]
   refine⟨by simp [Array.getD,hl];simpa using h2, ?_⟩
   rw [Array.getElem?_eq_getElem h1]
   simp only [Option.map_some,Option.getD_some]
   rw [←Array.all_toList]
   refine List.all_eq_true.2 fun e he=> ?_
   cases hb:Region.binds .any e with
   |false=>rfl
   |true=>
    have:=h3 e.on (a9v.2 ⟨_,e,Array.getElem?_eq_getElem h1,he,hb,rfl⟩)
    obtain⟨hk,hv⟩:=Array.getElem?_eq_some_iff.1 this
    simp [Array.getD,hk,hv]
def c1r (ops:Array Oper) (listed:Array Bool):Prop:=∀m i,listed[m]?=some true→a6W ops m i=true→listed[i]?=some true
theorem c1r.set {ops:Array Oper} {listed:Array Bool} (hsz:listed.size=ops.size) (h:c1r ops listed) {i:Nat} (hi:i∈Region.ready .any ops listed):c1r ops (listed.setIfInBounds i true):=by
 obtain⟨h1,_,h3⟩:=(a3P hsz).1 hi
 intro m k hm hk
 by_cases hki:i=k
 · subst hki;simp [Array.getElem?_setIfInBounds_self,hsz,h1]
 · rw [Array.getElem?_setIfInBounds_ne hki]
   by_cases hmi:i=m
   · subst hmi;exact h3 k hk
   · rw [Array.getElem?_setIfInBounds_ne hmi]at hm
     exact h m k hm hk
theorem b0X {ops:Array Oper} (hb:b4C ops=true) {listed:Array Bool} (hsz:listed.size=ops.size) (h:Region.ready .any ops listed= []):∀i,i<ops.size→listed[i]?=some true:=by
 intro i
 induction i using Nat.strongRecOn with
 |ind i ih=>
  intro hi
  have hl:i<listed.size:=by omega
  rw [Array.getElem?_eq_getElem hl]
  cases hv:listed[i]with
  |true=>rfl
  |false=>
   exfalso
   have:i∈Region.ready .any ops listed:=(a3P hsz).2 ⟨hi,by rw [Array.getElem?_eq_getElem hl,hv],fun k hk=>by
    obtain⟨hlt,_⟩:=b5E hb hk
    exact ih k hlt (by omega)⟩
   rw [h]at this;cases this
section
variable {P : Program} {n : Nat} {ops : Array Oper} {Q : Exit → Act → World → Prop}
theorem b2b (hb:b4C ops=true) {j:Nat} (hp:c1b ops j=true):∀(r m fuel:Nat) (listed:Array Bool) (a:Act) (w:World),m+r=ops.size→j<m→listed.size=ops.size→(∀i,i<m→listed[i]?=some true)→(∀i,m≤i→i<ops.size→listed[i]?=some false)→r≤fuel→
 wpListIn Fence.wide n P ops Q (ops.toList.drop m) a w→wpAnyIn Fence.wide n P .any ops Q fuel listed a w
 |0,m,fuel,listed,a,w,hm,hj,hsz,h1,h2,hf,h=>by
  have hnil:Region.ready .any ops listed= []:=List.eq_nil_iff_forall_not_mem.2 fun i hi=>by
   obtain⟨g1,g2,_⟩:=(a3P hsz).1 hi
   rw [h1 i (by omega)]at g2;cases g2
  rw [List.drop_of_length_le (by simp;omega)]at h
  cases fuel with
  |zero=>exact⟨hnil,h⟩
  |succ fuel=>exact⟨fun _=>h,fun i hi=>by rw [hnil]at hi;cases hi⟩
 |r+1,m,0,listed,a,w,hm,hj,hsz,h1,h2,hf,h=>by omega
 |r+1,m,fuel+1,listed,a,w,hm,hj,hsz,h1,h2,hf,h=>by
  have hlt:m<ops.size:=by omega
  have hrd:∀i,i∈Region.ready .any ops listed→i=m:=by
   intro i hi
   obtain⟨g1,g2,g3⟩:=(a3P hsz).1 hi
   rcases Nat.lt_trichotomy i m with h|h|h
   · rw [h1 i h]at g2;cases g2
   · exact h
   · exfalso
     have hk:=List.all_eq_true.1 hp i (List.mem_range.2 g1)
     have hnb:Nat.ble i j=false:=by cases hx:Nat.ble i j with|false=>rfl|true=>have:=Nat.le_of_ble_eq_true hx;omega
     rw [hnb,Bool.false_or]at hk
     have:=g3 _ hk
     rw [h2 (i-1) (by omega) (by omega)]at this;cases this
  refine⟨fun hnil=> ?_,fun i hi=> ?_⟩
  · have:=b0X hb hsz hnil m hlt
    rw [h2 m (Nat.le_refl _) hlt]at this;cases this
  · obtain rfl:=hrd i hi
    have hd:ops.toList.drop i=ops[i]::ops.toList.drop (i+1):=by
     rw [List.drop_eq_getElem_cons (by simpa using hlt)];simp
    rw [hd]at h
    simp only [wpListIn]at h
    unfold wpOpIn
    rw [Array.getElem?_eq_getElem hlt]
    simp only
    have goOn:∀a w,wpListIn Fence.wide n P ops Q (ops.toList.drop (i+1)) a w→wpAnyIn Fence.wide n P .any ops Q fuel (listed.setIfInBounds i true) a w:=by
     intro a w h
     refine b2b hb hp r (i+1) fuel _ a w (by omega) (by omega) (by simpa using hsz) (fun k hk=> ?_) (fun k hk hk2=> ?_) (by omega) h
     · by_cases e:i=k
       · subst e;simp [Array.getElem?_setIfInBounds_self,hsz,hlt]
       · rw [Array.getElem?_setIfInBounds_ne e];exact h1 k (by omega)
     · rw [Array.getElem?_setIfInBounds_ne (by omega)];exact h2 k (by omega) hk2
    split at h
    · rename_i hw;rw [if_pos hw];exact Oper.wpIn_mono goOn h
    · rename_i hw;rw [if_neg hw];exact⟨h.1,goOn _ _ h.2⟩
theorem c2Q {j:Nat} (hc:a7d ops j=true) {K:Act→World→Prop} (hK:∀a w,K a w→wpListIn Fence.wide n P ops Q (ops.toList.drop j) a w):
 ∀(fuel fuel2:Nat) (ls listed:Array Bool) (a:Act) (w:World),ls.size=j→listed.size=ops.size→(∀i,i<j→listed[i]?=ls[i]?)→(∀i,j≤i→i<ops.size→listed[i]?=some false)→c1r ops listed→fuel+(ops.size-j)≤fuel2→
 wpAnyIn Fence.wide n P .any (ops.extract 0 j) (fun e a w=>e= .normal∧K a w) fuel ls a w→wpAnyIn Fence.wide n P .any ops Q fuel2 listed a w:=by
 simp only [a7d,Bool.and_eq_true]at hc
 obtain⟨hb,hpre,hpost,hgd,hjs⟩:=hc
 have hjs:j<ops.size:=Nat.blt_eq.mp hjs|>fun h=>h
 have hget:∀i,i<j→(ops.extract 0 j)[i]?=ops[i]?:=fun i hi=>by
  rw [Array.getElem?_extract];simp;omega
 have hwt:∀i k,i<j→a6W (ops.extract 0 j) i k=a6W ops i k:=fun i k hi=>by unfold a6W;rw [hget i hi]
 have hsz':(ops.extract 0 j).size=j:=by simp;omega
 --when j is ready,all ahead of it are listed
 have hall:∀(listed:Array Bool),listed.size=ops.size→c1r ops listed→((∀k,a6W ops j k=true→listed[k]?=some true))→∀i,i<j→listed[i]?=some true:=by
  intro listed hsz hd hr i
  induction hr':j-i using Nat.strongRecOn generalizing i with
  |ind r ih=>
   intro hi
   have hx:=List.all_eq_true.1 hpre i (List.mem_range.2 hi)
   obtain⟨m,hm,hy⟩:=List.any_eq_true.1 hx
   simp only [Bool.and_eq_true,Nat.blt_eq,List.mem_range]at hy hm
   by_cases e:m=j
   · subst e;exact hr i hy.2
   · exact hd m i (ih (j-m) (by omega) m rfl (by omega)) hy.2
 --none behind j is ready as long as j is not listed
 have hnot:∀(listed:Array Bool),listed.size=ops.size→(∀i,j≤i→i<ops.size→listed[i]?=some false)→∀i,i∈Region.ready .any ops listed→i≤j:=by
  intro listed hsz h2 i hi
  obtain⟨g1,g2,g3⟩:=(a3P hsz).1 hi
  apply Nat.le_of_not_lt
  intro hlt
  have hk:=List.all_eq_true.1 hpost i (List.mem_range.2 g1)
  have hnb:Nat.ble i j=false:=by cases hx:Nat.ble i j with|false=>rfl|true=>have:=Nat.le_of_ble_eq_true hx;omega
  rw [hnb,Bool.false_or]at hk
  have:=g3 _ hk
  rw [h2 (i-1) (by omega) (by omega)]at this;cases this
 intro fuel
 induction fuel with
 |zero=>
  intro fuel2 ls listed a w hls hsz hsame hfalse hdown hf h
  obtain⟨hnil,_,hk⟩:=h
  have hl:=b0X (ops:=ops.extract 0 j) (by
   refine List.all_eq_true.2 fun m hm=> ?_
   rw [List.mem_range,hsz']at hm
   rw [hget m hm]
   exact List.all_eq_true.1 hb m (List.mem_range.2 (by omega))) (by omega) hnil
  have h1:∀i,i<j→listed[i]?=some true:=fun i hi=>by rw [hsame i hi];exact hl i (by omega)
  cases fuel2 with
  |zero=>omega
  |succ fuel2=>
   refine⟨fun hn=> ?_,fun i hi=> ?_⟩
   · have:=b0X hb hsz hn j hjs
     rw [hfalse j (Nat.le_refl _) hjs]at this;cases this
   · have hij:=hnot listed hsz hfalse i hi
     obtain⟨g1,g2,g3⟩:=(a3P hsz).1 hi
     have hie:i=j:=by
      rcases Nat.lt_or_ge i j with h|h
      · rw [h1 i h]at g2;cases g2
      · omega
     subst hie
     have h:=hK a w hk
     have hd:ops.toList.drop i=ops[i]::ops.toList.drop (i+1):=by
      rw [List.drop_eq_getElem_cons (by simpa using hjs)];simp
     rw [hd]at h
     simp only [wpListIn]at h
     unfold wpOpIn
     rw [Array.getElem?_eq_getElem hjs]
     simp only
     have goOn:∀a w,wpListIn Fence.wide n P ops Q (ops.toList.drop (i+1)) a w→wpAnyIn Fence.wide n P .any ops Q fuel2 (listed.setIfInBounds i true) a w:=by
      intro a w h
      refine b2b hb hpost (ops.size-(i+1)) (i+1) fuel2 _ a w (by omega) (by omega) (by simpa using hsz) (fun k hk=> ?_) (fun k hk hk2=> ?_) (by omega) h
      · by_cases e:i=k
        · subst e;simp [Array.getElem?_setIfInBounds_self,hsz,hjs]
        · rw [Array.getElem?_setIfInBounds_ne e];exact h1 k (by omega)
      · rw [Array.getElem?_setIfInBounds_ne (by omega)];exact hfalse k (by omega) hk2
     split at h
     · rename_i hw;rw [if_pos hw];exact Oper.wpIn_mono goOn h
     · rename_i hw;rw [if_neg hw];exact⟨h.1,goOn _ _ h.2⟩
 |succ fuel ih=>
  intro fuel2 ls listed a w hls hsz hsame hfalse hdown hf h
  obtain⟨h0,h1⟩:=h
  cases fuel2 with
  |zero=>omega
  |succ fuel2=>
   refine⟨fun hn=> ?_,fun i hi=> ?_⟩
   · have:=b0X hb hsz hn j hjs
     rw [hfalse j (Nat.le_refl _) hjs]at this;cases this
   · have hij:=hnot listed hsz hfalse i hi
     obtain⟨g1,g2,g3⟩:=(a3P hsz).1 hi
     rcases Nat.lt_or_ge i j with hlt|hge
     · --ahead of j
       have hi':i∈Region.ready .any (ops.extract 0 j) ls:=(a3P (by omega)).2 ⟨by omega,by rw [←hsame i hlt];exact g2,fun k hk=>by
        rw [hwt i k hlt]at hk
        have hkl:=(b5E hb hk).1
        rw [←hsame k (by omega)];exact g3 k hk⟩
       have hop:=h1 i hi'
       unfold wpOpIn at hop⊢
       rw [hget i hlt,Array.getElem?_eq_getElem g1]at hop
       rw [Array.getElem?_eq_getElem g1]
       simp only at hop⊢
       have hyl:Region.wanted ops[i] (yielded (ops.extract 0 j) a.tmps)=Region.wanted ops[i] (yielded ops a.tmps):=by
        have hx:=List.all_eq_true.1 hgd i (List.mem_range.2 hlt)
        rw [Array.getElem?_eq_getElem g1]at hx
        simp only at hx
        unfold Region.wanted
        cases hg:ops[i].guard with
        |none=>rfl
        |some p=>
         obtain⟨g,b⟩:=p
         rw [hg]at hx
         simp only [Nat.blt_eq]at hx
         simp only [yielded,hget g hx]
       rw [hyl]at hop
       have goOn:∀a w,wpAnyIn Fence.wide n P .any (ops.extract 0 j) (fun e a w=>e= .normal∧K a w) fuel (ls.setIfInBounds i true) a w→wpAnyIn Fence.wide n P .any ops Q fuel2 (listed.setIfInBounds i true) a w:=by
        intro a w h
        refine ih fuel2 _ _ a w (by simpa using hls) (by simpa using hsz) (fun k hk=> ?_) (fun k hk hk2=> ?_) (hdown.set hsz hi) (by omega) h
        · by_cases e:i=k
          · subst e;simp [Array.getElem?_setIfInBounds_self,hsz,g1,hls,hlt]
          · rw [Array.getElem?_setIfInBounds_ne e,Array.getElem?_setIfInBounds_ne e];exact hsame k hk
        · rw [Array.getElem?_setIfInBounds_ne (by omega)];exact hfalse k hk hk2
       split at hop
       · rename_i hw
         rw [if_pos hw]
         have h2:=Oper.wpIn_mono goOn hop
         unfold Oper.wpIn at h2⊢
         refine⟨h2.1, ?_⟩
         have h3:=h2.2
         generalize (ops[i].semAt Fence.wide.round a.eval).run P w=r at*
         cases r with
         |ok x w'=>
          cases x with
          |value v=>exact h3
          |skip=>exact h3
          |defer d=>exact h3
          |enter f args=>
           refine⟨h3.1,h3.2.mono fun e w'' he=> ?_⟩
           cases e with
           |returned v=>exact he
           |panicked c=>obtain⟨he,_⟩:=he;cases he
           |outgrown=>obtain⟨a,w,he,_⟩:=he;cases he
          |row row args=>exact h3
          |round l f tmps assign body=>
           refine⟨h3.1,h3.2.mono fun e w'' he=> ?_⟩
           cases e with
           |returned v=>exact he
           |panicked c=>obtain⟨he,_⟩:=he;cases he
           |outgrown=>obtain⟨a,w,he,_⟩:=he;cases he
          |_=>exact h3.elim
         |halt hl w'=>
          cases hl with
          |panic v=>obtain⟨he,_⟩:=h3;cases he
          |_=>exact h3.elim
       · rename_i hw;rw [if_neg hw];exact⟨hop.1,goOn _ _ hop.2⟩
     · --j itself:all ahead of it are listed
       obtain rfl:i=j:=by omega
       have hl:=hall listed hsz hdown g3
       have hnil:Region.ready .any (ops.extract 0 i) ls= []:=List.eq_nil_iff_forall_not_mem.2 fun k hk=>by
        obtain⟨k1,k2,_⟩:=(a3P (by omega)).1 hk
        rw [←hsame k (by omega),hl k (by omega)]at k2;cases k2
       obtain⟨_,hk⟩:=h0 hnil
       have h:=hK a w hk
       have hd:ops.toList.drop i=ops[i]::ops.toList.drop (i+1):=by
        rw [List.drop_eq_getElem_cons (by simpa using hjs)];simp
       rw [hd]at h
       simp only [wpListIn]at h
       unfold wpOpIn
       rw [Array.getElem?_eq_getElem hjs]
       simp only
       have goOn:∀a w,wpListIn Fence.wide n P ops Q (ops.toList.drop (i+1)) a w→wpAnyIn Fence.wide n P .any ops Q fuel2 (listed.setIfInBounds i true) a w:=by
        intro a w h
        refine b2b hb hpost (ops.size-(i+1)) (i+1) fuel2 _ a w (by omega) (by omega) (by simpa using hsz) (fun k hk=> ?_) (fun k hk hk2=> ?_) (by omega) h
        · by_cases e:i=k
          · subst e;simp [Array.getElem?_setIfInBounds_self,hsz,hjs]
          · rw [Array.getElem?_setIfInBounds_ne e];exact hl k (by omega)
        · rw [Array.getElem?_setIfInBounds_ne (by omega)];exact hfalse k (by omega) hk2
       split at h
       · rename_i hw;rw [if_pos hw];exact Oper.wpIn_mono goOn h
       · rename_i hw;rw [if_neg hw];exact⟨h.1,goOn _ _ h.2⟩
end
end Go.Sx
namespace Go.Sx
open Go Go.RowKit
def b2Q:List (Nat×D)→List (Nat×D)
 | []=> []
 |(d,x)::T=>(d,match a0R x,Nat.blt d 1000000 with|true,true=>x|_,_=> .bad)::b2Q T
def b7F:List (Nat×D)→List (Nat×D)
 | []=> []
 |(d,x)::T=>(d,match x,Nat.blt d 1000000 with| .v y,true=> .v y|_,_=> .bad)::b7F T
def a5C (st:Sy) (o:Oper):Option (List Operand):=match o.op with
 | .call c=>match c.callee with
  | .value f=>match evY st f with
   |some (.v (.func (.yield _) _ _))=>some c.args.toList
   |_=>none
  |_=>none
 |_=>none
def b1e (st:Sy) (o:Oper):Option D:=match o.op with
 | .call c=>match c.callee with
  | .value f=>evY st f
  |_=>none
 |_=>none
abbrev Pre:=Option (List (List D))
structure a7V (X:Cy) (l:Nat) (xs:List (List D)) (st:Sy) (o:Oper) (args:List Operand) (p:Pre) (K:Sy→Pre→Prop):Prop where
 ex:∃pre x x',b1e st o=some (.v (.func (.yield l) #[] #[]))∧p=some pre∧a8m st args=some x∧a3m st (.tup x) (fun y=>y= .tup x')∧pre++ [x']<+:xs∧
  Y1 X ⟨b2Q st.T, [],st.nk⟩ o.dst (.v (.bool true)) (fun st=>K st (some (pre++ [x'])))∧Y1 X ⟨b7F st.T, [],st.nk⟩ o.dst (.v (.bool false)) fun st=>K st none
structure a1t (X:Cy) (l:Nat) (xs:List (List D)) (st:Sy) (o:Oper) (args:List Operand) (p:Pre) (K:Sy→Pre→Prop):Prop where
 ex:∃ks st0,a5l ks st []=some (st0, [])∧a7V X l xs st0 o args p K
def c2y (X:Cy) (ops:List Oper) (o:Oper) (st:Sy) (K:Sy→Prop):Prop:=
 a2M ops o.guard st (fun st=>y1 X st o.op (a6n X true st o.dst K)) (fun st=>Y1 X st o.dst .und K)
theorem c2w (X:Cy) (ops:List Oper) (o:Oper) (st:Sy) (K:Sy→Prop):c2y X ops o st K=b4S X ops [o] st K:=rfl
def b5O (X:Cy) (l:Nat) (xs:List (List D)) (ops:List Oper):List Oper→Sy→Pre→(Sy→Pre→Prop)→Prop
 | [],st,p,K=>K st p
 |o::rest,st,p,K=>match a5C st o with
  |some args=>a2M ops o.guard st (fun st=>a1t X l xs st o args p fun st p=>b5O X l xs ops rest st p K) (fun st=>Y1 X st o.dst .und fun st=>b5O X l xs ops rest st p K)
  |none=>c2y X ops o st fun st=>b5O X l xs ops rest st p K
def c2q:List (Nat×Nat)→Nat→Option Nat
 | [],_=>none
 |(i,j)::l,k=>match Nat.beq i k with|true=>some j|false=>c2q l k
structure a7H (body:Sy→Pre→(Exit→Sy→Pre→Prop)→Prop) (st:Sy) (p:Pre) (K:Exit→Sy→Pre→Prop):Prop where
 ex:∃(α:Type) (f:α→Sy) (pf:α→List (List D)) (inv:α→Prop) (μ:α→Nat),(∃x0,i4 st (f x0)∧p=some (pf x0)∧inv x0)∧∀x,inv x→body (f x) (some (pf x)) fun e st2 p2=>match e with
  | .normal=>∃y,i4 st2 (f y)∧p2=some (pf y)∧inv y∧μ y<μ x
  |e=>K e st2 p2
def a5d (X:Cy) (l:Nat) (xs:List (List D)) (yl:List (Nat×Nat)):Code→Sy→Pre→(Exit→Sy→Pre→Prop)→Prop
 | .skip,st,p,K=>K .normal st p
 | .region id ops draw,st,p,K=>match draw with
  |false=>b5O X l xs ops.toList ops.toList st p (K .normal)
  |true=>match b6T X.pl id with
   |some pl=>match c2q yl id with
    |some j=>a7d ops j=true∧a6t X.tt X.nt (ops.toList.take j).toArray pl=true∧(match st with|⟨T,H,nk⟩=>a6d X (ops.toList.take j) pl ⟨a7a (ops.toList.take j) T,H,nk⟩ [] fun st=>b5O X l xs ops.toList (ops.toList.drop j) st p (K .normal))
    |none=>U8 X (.region id ops true) st fun e st=>K e st p
   |none=>False
 | .seq a b,st,p,K=>a5d X l xs yl a st p fun e st' p'=>match e with
  | .normal=>a5d X l xs yl b st' p' K
  |e=>K e st' p'
 | .cond c t e,st,p,K=>match evY st c with
  |some (.v (.bool b))=>VIf b (a5d X l xs yl t st p K) (a5d X l xs yl e st p K)
  |_=>False
 | .block id c,st,p,K=>a5d X l xs yl c st p fun e st' p'=>match e with
  | .exit j=>match Nat.beq j id with
   |true=>K .normal st' p'
   |false=>K (.exit j) st' p'
  |e=>K e st' p'
 | .loop c,st,p,K=>a7H (a5d X l xs yl c) st p K
 | .exit id,st,p,K=>K (.exit id) st p
 | .ret,st,p,K=>K .ret st p
 | .scope c,st,p,K=>a5d X l xs yl c st p K
 | .label _,st,p,K=>K .normal st p
 |_,_,_,_=>False
theorem b3C {d:Nat} {x:D}:∀ {T:List (Nat×D)},w8 (b2Q T) d=some x→x= .bad∨(w8 T d=some x∧a0R x=true∧d<R0)
 | [],h=>by cases h
 |(e,y)::T,h=>by
  simp only [b2Q,w8]at h⊢
  split at h
  · rename_i hb
    simp only [Option.some.injEq]at h
    cases hc:a0R y with
    |true=>
     cases hd:Nat.blt e 1000000 with
     |true=>rw [hc,hd]at h;subst h;exact .inr ⟨rfl,hc,by rw [←B9 hb];simpa [Nat.blt_eq]using hd⟩
     |false=>rw [hc,hd]at h;exact .inl h.symm
    |false=>rw [hc]at h;exact .inl h.symm
  · rename_i hb
    exact b3C h
theorem b3N {d:Nat} {x:D}:∀ {T:List (Nat×D)},w8 (b7F T) d=some x→x= .bad∨(w8 (b2Q T) d=some x∧∃y,x= .v y)
 | [],h=>by cases h
 |(e,y)::T,h=>by
  simp only [b7F,b2Q,w8]at h⊢
  split at h
  · rename_i hb
    simp only [Option.some.injEq]at h
    split at h
    · rename_i v hd
      subst h
      exact .inr ⟨by simp [a0R,hd],_,rfl⟩
    · exact .inl h.symm
  · exact b3N h
def b4j (t:Array Value) (d:Nat):SV:=match t[d]? with|some y=> .v y|none=> .bad
def b4b (t:Array Value):List (Nat×D)→List (Nat×SV)
 | []=> []
 |(d,_)::T=>(d,b4j t d)::b4b t T
theorem b3t {t:Array Value} {d:Nat} {s:SV}:∀ {T:List (Nat×D)},C6 (b4b t T) d=some s→s=b4j t d
 | [],h=>by cases h
 |(e,y)::T,h=>by
  simp only [b4b,C6]at h
  split at h
  · rename_i hb;obtain rfl:=B9 hb;exact(Option.some.inj h).symm
  · exact b3t h
theorem b7R {t:Array Value} {d:Nat} {x:D}:∀ {T:List (Nat×D)},w8 T d=some x→C6 (b4b t T) d=some (b4j t d)
 | [],h=>by cases h
 |(e,y)::T,h=>by
  simp only [w8]at h
  simp only [b4b,C6]
  split at h
  · rename_i hb;obtain rfl:=B9 hb;simp
  · rename_i hb;rw [hb];exact b7R h
section
variable {X : Cy} {xs : List (List D)} {ok0 : Nat → Prop} {W0 : World} {l n : Nat} {J : List (List D) → (Nat → Prop) → World → Prop} {Jx : List (List D) → World → Prop}
def c6w (xs:List (List D)) (W0:World) (J:List (List D)→(Nat→Prop)→World→Prop) (Jx:List (List D)→World→Prop) (ok:Nat→Prop) (w0:World):Pre→Prop
 |some pre=>W0.heap.size≤w0.heap.size∧∃O:Nat→Prop,(∀b,O b→b<w0.heap.size∧¬ok b)∧J pre O w0
 |none=>∃pre,pre<+:xs∧Jx pre w0
def Seg (X:Cy) (xs:List (List D)) (ok0:Nat→Prop) (W0:World) (J:List (List D)→(Nat→Prop)→World→Prop) (Jx:List (List D)→World→Prop) (p:Pre) (sy:Sy) (a:Act) (w:World):Prop:=
 ∃(ok:Nat→Prop) (w0:World) (st:St),(∀b,ok b→b<w0.heap.size∧(ok0 b∨W0.heap.size≤b))∧Sim (fun b=>w0.heap.size≤b∨ok b) st sy∧Rel (cx X w0 []) st a w∧c6w xs W0 J Jx ok w0 p
theorem b3q {ok:Nat→Prop} {w0:World}:∀b,(w0.heap.size≤b∨b∈([]:List Nat))→(fun b=>w0.heap.size≤b∨ok b) b:=fun b h=>by
 rcases h with h|h
 · exact .inl h
 · cases h
theorem c1F (hP:POK X.P X.tt) {c:Code} {sy:Sy} {p:Pre} {a:Act} {w:World} {K:Exit→Sy→Prop} {Q:Exit→Act→World→Prop} (h:U8 X c sy K) (hs:Seg X xs ok0 W0 J Jx p sy a w)
 (hQ:∀e sy' a' w',plain e→K e sy'→Seg X xs ok0 W0 J Jx p sy' a' w'→Q e a' w'):c.wp X.P Q a w:=by
 obtain⟨ok,w0,st,h1,h3,h4,h5⟩:=hs
 exact a4j b3q hP c st sy a w K Q h h3 h4 fun e st' sy' a' w' hp hk hs' hl=>hQ e sy' a' w' hp hk ⟨ok,w0,st',h1,hs',hl.rel,h5⟩
theorem b8w {P:Program} {o:Oper} {a:Act} {w:World} {K:Act→World→Prop} {Q Q':Exit→Act→World→Prop} (h:o.wp P a w K Q') (hno:¬LetsOut Q') (hpn:∀c a w,¬Q' (.panic c) a w):o.wpIn Fence.wide n P a w K Q:=by
 unfold Oper.wp at h
 unfold Oper.wpIn
 refine⟨fun _ _=>trivial, ?_⟩
 rw [Fence.wide_round,Oper.semAt_none]
 generalize (execOp a.eval o).run P w=r at*
 cases r with
 |ok x w'=>
  cases x with
  |value v=>exact h
  |skip=>exact h
  |defer d=>exact h
  |enter f args=>
   refine⟨fun h=>by simp [Fence.wide]at h,(callsIn_wide.2 h).mono fun e w'' he=> ?_⟩
   cases e with
   |returned v=>exact he
   |panicked c=>exact absurd he (hpn _ _ _)
   |outgrown=>exact absurd he hno
  |row row args=>
   refine⟨fun h=>by simp [Fence.wide]at h,fun c cs _=> ?_⟩
   obtain⟨v,w',r,s⟩:=h c cs
   exact⟨v,w',r,stepsIn_wide.2 s⟩
  |_=>exact h.elim
 |halt hl w'=>
  cases hl with
  |panic v=>exact absurd h (hpn _ _ _)
  |_=>exact h.elim
theorem a9u {P:Program} {md:Region.Mode} {ops:Array Oper} {K:Act→World→Prop}:∀(fuel:Nat) (listed:Array Bool) (a:Act) (w:World),wpAny P md ops (fun e a w=>e=Exit.normal∧K a w) fuel listed a w→wpAnyIn Fence.wide n P md ops (fun e a w=>e=Exit.normal∧K a w) fuel listed a w
 |0,listed,a,w,h=>h
 |fuel+1,listed,a,w,h=>by
  refine⟨h.1,fun i hi=> ?_⟩
  have h2:=h.2 i hi
  unfold wpOp at h2
  unfold wpOpIn
  cases ho:ops[i]? with
  |none=>rw [ho]at h2;exact a9u fuel _ a w h2
  |some o=>
   rw [ho]at h2
   simp only at h2⊢
   have hno:¬LetsOut (fun e a w=>e=Exit.normal∧K a w):=by rintro⟨a,w,h,_⟩;cases h
   split at h2
   · rename_i hw
     rw [if_pos hw]
     rcases h2 with h2|⟨_,h2⟩
     · exact b8w (Oper.wp_mono (fun a w h=>a9u fuel _ a w h) h2) hno (by rintro c a w ⟨h,_⟩;cases h)
     · exact absurd h2 hno
   · rename_i hw
     rw [if_neg hw]
     exact⟨fun _ _=>trivial,a9u fuel _ _ _ h2⟩
theorem b0s {w0 w:World} (h:Fx [] w0 w):w0.grownBy w none:=⟨h.os,h.tape,h.output,h.size,fun k hk _=>h.block k hk (by simp)⟩
theorem a9O {ok:Nat→Prop} {w:World} {a:Act} {T:List (Nat×D)} {nk:Nat} (hsz:a.tmps.size=X.nt∧X.nt≤R0) (hd:a.defers=X.dfs) (hok:∀b,ok b→b<w.heap.size) (hT:∀d x,w8 T d=some x→x= .bad∨∃y,a.tmps[d]?=some y∧Rep ok w x y):
 Sim (fun b=>w.heap.size≤b∨ok b) ⟨b4b a.tmps T, [],nk,w,w.heap.size, []⟩ ⟨T, [],nk⟩∧Rel (cx X w []) ⟨b4b a.tmps T, [],nk,w,w.heap.size, []⟩ a w:=by
 constructor
 · refine⟨fun d x hx=> ?_,fun k e he=>by simp [o4]at he,rfl,fun j _=> ?_,fun _ _=>rfl⟩
   · rcases hT d x hx with h|⟨y,h1,h2⟩
     · exact .inl h
     · right
       refine⟨_,b7R hx, ?_⟩
       have:b4j a.tmps d= .v y:=by simp [b4j,h1]
       rw [this]
       exact Rep.rel _ _ (Rep.mono (fun b hb=>⟨⟨⟨.inl (hok b hb), .inr hb⟩,hok b hb,fun c hc=>by simp [bs]at hc⟩,rfl⟩) _ _ h2)
   · have:∀T:List (Nat×D),B0 j (b4b a.tmps T)=true:=by
      intro T
      induction T with
      |nil=>rfl
      |cons p T ih=>
       obtain⟨e,y⟩:=p
       simp only [b4b,B0]
       have:ment j (b4j a.tmps e)=false:=by unfold b4j;cases a.tmps[e]?<;>rfl
       rw [this];exact ih
     exact this T
 · refine⟨hsz,fun d s hs=> ?_,hd,Cls.nil (cx X w []) nk,Nat.le_refl _,by simp⟩
   have:=b3t hs
   subst this
   cases h:a.tmps[d]? with
   |none=>left;simp [b4j,h]
   |some y=>
    have hlt:=(Array.getElem?_eq_some_iff.1 h).1
    right;rw [R9,if_pos (Nat.lt_of_lt_of_le hlt (hsz.1▸hsz.2))];simp [b4j,h,den]
def b1b (X:Cy) (xs:List (List D)) (ok0:Nat→Prop) (W0:World) (l n:Nat) (J:List (List D)→(Nat→Prop)→World→Prop) (Jx:List (List D)→World→Prop):Prop:=
 ∀pre x vals O W1,J pre O W1→(∀b,O b→b<W1.heap.size)→pre++ [x]<+:xs→j3 (fun b=>(ok0 b∨W0.heap.size≤b)∧b<W1.heap.size∧¬O b) W1 x vals→
  YieldAt Fence.wide n X.P l vals.toArray W1 fun e W'=>
   (e= .returned (.bool true)∧∃O',J (pre++ [x]) O' W'∧W1.heap.size≤W'.heap.size∧(∀b,O' b→b<W'.heap.size∧(O b∨W1.heap.size≤b))∧∀b,b<W1.heap.size→¬O b→W'.heap[b]?=W1.heap[b]?)∨
   (e= .returned (.bool false)∧Jx (pre++ [x]) W')
theorem a8e {st:Sy} {o:Oper} {args:List Operand} (h:a5C st o=some args):∃c f,o.op= .call c∧c.callee= .value f∧c.args.toList=args:=by
 unfold a5C at h
 split at h
 · rename_i c hc
   split at h
   · rename_i f hf
     split at h
     · exact⟨c,f,hc,hf,Option.some.inj h⟩
     · cases h
   · cases h
 · cases h
theorem b8L (hP:POK X.P X.tt) (hJ:∀pre O A B,J pre O A→A.grownBy B none→J pre O B) (hY:b1b X xs ok0 W0 l n J Jx) {o:Oper} {args:List Operand} {sy:Sy} {p:Pre} {a:Act} {w:World} {K:Sy→Pre→Prop} {K':Act→World→Prop} {Q:Exit→Act→World→Prop}
 (hop:a5C sy o=some args∨∃c f,o.op= .call c∧c.callee= .value f∧c.args.toList=args) (h:a7V X l xs sy o args p K) (hs:Seg X xs ok0 W0 J Jx p sy a w) (hK:∀sy' p' a' w',K sy' p'→Seg X xs ok0 W0 J Jx p' sy' a' w'→K' a' w'):o.wpIn Fence.wide (n+1) X.P a w K' Q:=by
 obtain⟨pre,x,x',hcal,rfl,hx,hret,hpre,ht,hf⟩:=h.ex
 obtain⟨ok,w0,st,hok,hsim,hrel,hsz,O,hO,hJ0⟩:=hs
 obtain⟨c,f,hopc,hcf,hca⟩:∃c f,o.op= .call c∧c.callee= .value f∧c.args.toList=args:=by
  rcases hop with h|h
  · exact a8e h
  · exact h
 simp only [b1e,hopc,hcf]at hcal
 obtain⟨sf,e1,e2,_⟩:=n8 hsim hcal
 have hfv:a.eval f= .func (.yield l) #[] #[]:=by
  have:=e2.sc;subst this
  simpa [den]using (hrel.ev f _ e1).2
 obtain⟨sx,e3,e4⟩:=Z8 hsim hx
 have hargs:=(a5n hrel.ev e3).1
 have hfx0:=hrel.cls.fx0
 have hg:=b0s (show Fx [] w0 w from hfx0)
 have hJ1:=hJ pre O w0 w hJ0 hg
 --what is handed on
 obtain⟨r',hr',hrep⟩:=b2c (b3q (ok:=ok) (w0:=w0)) hret hsim hrel (show i0 (okS _ st) st.w (D7 st) (.tup x) (.tup sx) from by simp only [i0];exact .inl ⟨sx,rfl,e4⟩)
 subst hr'
 simp only [Rep]at hrep
 obtain⟨av,hav,hrepl⟩:=hrep
 have hval:av=(j7 st.H sx).toArray:=by simpa [den]using hav.symm
 have hO1:∀b,O b→b<w.heap.size:=fun b hb=>Nat.lt_of_lt_of_le (hO b hb).1 hfx0.size
 have hnO:∀b,(w0.heap.size≤b∨ok b)→¬O b:=fun b hb hOb=>by
  rcases hb with h|h
  · have:=(hO b hOb).1;omega
  · exact(hO b hOb).2 h
 obtain⟨fn,tm,asn,body,hrun,hround⟩:=hY pre x' av.toList O w hJ1 hO1 hpre (j3.mono (fun b hb=>⟨⟨by
  rcases hb.1 with h|h
  · exact .inr (Nat.le_trans hsz h)
  · exact(hok b h).2,hb.2,hnO b hb.1⟩,rfl⟩) _ _ hrepl)
 unfold Oper.wpIn
 refine⟨fun _ _=>trivial, ?_⟩
 rw [Fence.wide_round,Oper.semAt_none]
 have harr:c.args.map a.eval=av:=by
  rw [hval];apply Array.ext';rw [←hargs,←hca];simp
 have hexec:(execOp a.eval o).run X.P w= .ok (.round l fn tm asn body) w:=by
  simp only [execOp,hopc,resolve,hcf,Sem.run_bind,hfv,Deferred.ofValue,Sem.run_pure,Result.andThen_ok,invoke,harr]
  simpa using hrun
 rw [hexec]
 refine⟨fun h=>by simp [Fence.wide]at h,hround.mono fun e w' he=> ?_⟩
 --the state behind the round
 have hkeep:∀d y,w8 (b2Q sy.T) d=some y→y= .bad∨∃v,a.tmps[d]?=some v∧Rep (fun b=>(w0.heap.size≤b∨ok b)∧b<w.heap.size) w y v:=by
  intro d y hd
  rcases b3C hd with h|⟨h,hc,hlt⟩
  · exact .inl h
  · rcases hsim.T d y h with h|⟨s,g1,g2⟩
    · exact .inl h
    · rcases hrel.T d s g1 with g|g
      · subst g
        left
        cases y<;>simp_all [i0,a0R,a4B]
      · right
        rw [R9,if_pos hlt]at g
        refine⟨_,g, ?_⟩
        have:=a3U (H:=st.H) _ _ g2 hc
        exact Rep.mono (fun b hb=>⟨⟨hb.1.2,Nat.lt_of_lt_of_le hb.2.1 hrel.cls.fx.size⟩,hrel.cls.fx.block b hb.2.1 hb.2.2⟩) _ _ this
 have hnk:sy.nk=st.nk:=hsim.nk
 rcases he with⟨rfl,O',hJ',hle,hO',hblk⟩|⟨rfl,hJ'⟩
 · obtain⟨g1,g2⟩:=a9O (X:=X) (ok:=fun b=>(w0.heap.size≤b∨ok b)∧b<w.heap.size) (w:=w') (a:=a) (T:=b2Q sy.T) (nk:=sy.nk) hrel.size hrel.dfs (fun b hb=>Nat.lt_of_lt_of_le hb.2 hle) fun d y hd=>by
    rcases hkeep d y hd with h|⟨v,h1,h2⟩
    · exact .inl h
    · exact .inr ⟨v,h1,Rep.mono (fun b hb=>⟨hb,hblk b hb.2 (hnO b hb.1)⟩) _ _ h2⟩
   have hput:=K8 (w0:=w') (bor:= []) (s:= .v (.bool true)) ht g1 (by simp only [i0];exact⟨trivial,rfl⟩)
   obtain⟨st1,⟨sy1,k1,k2⟩,k3,_⟩:=a2C g2 hput (v:= .bool true) (.inr (by simp [den]))
   refine hK sy1 _ _ _ k1 ⟨_,w',st1,fun b hb=>⟨Nat.lt_of_lt_of_le hb.2 hle, ?_⟩,k2,k3,Nat.le_trans hsz (Nat.le_trans hfx0.size hle),O',fun b hb=>⟨(hO' b hb).1,fun hx=> ?_⟩,hJ'⟩
   · rcases hb.1 with h|h
     · exact .inr (Nat.le_trans hsz h)
     · exact(hok b h).2
   · rcases(hO' b hb).2 with h|h
     · exact hnO b hx.1 h
     · have:=hx.2;omega
 · obtain⟨g1,g2⟩:=a9O (X:=X) (ok:=fun _=>False) (w:=w') (a:=a) (T:=b7F sy.T) (nk:=sy.nk) hrel.size hrel.dfs (fun b hb=>hb.elim) fun d y hd=>by
    rcases b3N hd with h|⟨h,x,rfl⟩
    · exact .inl h
    · rcases hkeep d _ h with h|⟨v,h1,h2⟩
      · exact .inl h
      · exact .inr ⟨v,h1,by simp only [Rep]at h2⊢;exact h2⟩
   have hput:=K8 (w0:=w') (bor:= []) (s:= .v (.bool false)) hf g1 (by simp only [i0];exact⟨trivial,rfl⟩)
   obtain⟨st1,⟨sy1,k1,k2⟩,k3,_⟩:=a2C g2 hput (v:= .bool false) (.inr (by simp [den]))
   exact hK sy1 _ _ _ k1 ⟨_,w',st1,fun b hb=>hb.elim,k2,k3,_,hpre,hJ'⟩
theorem c1N (hP:POK X.P X.tt) (hJ:∀pre O A B,J pre O A→A.grownBy B none→J pre O B) (hY:b1b X xs ok0 W0 l n J Jx) {o:Oper} {args:List Operand} {sy:Sy} {p:Pre} {a:Act} {w:World} {K:Sy→Pre→Prop} {K':Act→World→Prop} {Q:Exit→Act→World→Prop}
 (hop:a5C sy o=some args∨∃c f,o.op= .call c∧c.callee= .value f∧c.args.toList=args) (h:a1t X l xs sy o args p K) (hs:Seg X xs ok0 W0 J Jx p sy a w) (hK:∀sy' p' a' w',K sy' p'→Seg X xs ok0 W0 J Jx p' sy' a' w'→K' a' w'):o.wpIn Fence.wide (n+1) X.P a w K' Q:=by
 obtain⟨ks,sy0,hfz,hz⟩:=h.ex
 obtain⟨ok,w0,st,hok,hsim,hrel,hJ0⟩:=hs
 obtain⟨st,hsim,hrel,_⟩:=b7P (b3q (ok:=ok) (w0:=w0)) hfz hsim hrel
 refine b8L hP hJ hY (sy:=sy0) (.inr ?_) hz ⟨ok,w0,st,hok,hsim,hrel,hJ0⟩ hK
 rcases hop with h|h
 · exact a8e h
 · exact h
end
end Go.Sx
namespace Go.Sx
open Go Go.RowKit
section
variable {X : Cy} {xs : List (List D)} {ok0 : Nat → Prop} {W0 : World} {l n : Nat} {J : List (List D) → (Nat → Prop) → World → Prop} {Jx : List (List D) → World → Prop}
theorem b9J {ops:List Oper} {o:Oper} {opsA:Array Oper} (hops:opsA.toList=ops) {sy:Sy} {p:Pre} {a:Act} {w:World} {yes no:Sy→Prop} (h:a2M ops o.guard sy yes no) (hs:Seg X xs ok0 W0 J Jx p sy a w):
 ∃sy',Seg X xs ok0 W0 J Jx p sy' a w∧((Region.wanted o (yielded opsA a.tmps)=true∧yes sy')∨(Region.wanted o (yielded opsA a.tmps)=false∧no sy')):=by
 obtain⟨ok,w0,st,h1,h3,h4,h5⟩:=hs
 subst hops
 have hg:=a9K (yes:=fun st'=>∃sy',Sim (fun b=>w0.heap.size≤b∨ok b) st' sy'∧yes sy') (no:=fun st'=>∃sy',Sim (fun b=>w0.heap.size≤b∨ok b) st' sy'∧no sy') h h3 (fun st' sy' h1 h2=>⟨sy',h1,h2⟩) (fun st' sy' h1 h2=>⟨sy',h1,h2⟩)
 obtain⟨st1,hsm,_,hr1,hg⟩:=b2a (X:=cx X w0 []) hg h4
 rcases hg with⟨hw,sy1,hs1,hy⟩|⟨hw,sy1,hs1,hn⟩
 · exact⟨sy1,⟨ok,w0,st1,h1,hs1,hr1,h5⟩, .inl ⟨hw,hy⟩⟩
 · exact⟨sy1,⟨ok,w0,st1,h1,hs1,hr1,h5⟩, .inr ⟨hw,hn⟩⟩
theorem c3p {sy:Sy} {p:Pre} {a:Act} {w:World} {dst:Option Nat} {K:Sy→Prop} (h:Y1 X sy dst .und K) (hs:Seg X xs ok0 W0 J Jx p sy a w):∃sy',K sy'∧Seg X xs ok0 W0 J Jx p sy' (a.put dst undef) w:=by
 obtain⟨ok,w0,st,h1,h3,h4,h5⟩:=hs
 obtain⟨st2,⟨sy2,hK2,hs2⟩,hr2,hH2⟩:=a2C h4 (K8 (w0:=w0) (bor:= []) (s:= .v undef) h h3 (by simp only [i0])) (v:=undef) (.inr rfl)
 exact⟨sy2,hK2,ok,w0,st2,h1,hs2,hr2,h5⟩
theorem a8U (hP:POK X.P X.tt) (hJ:∀pre O A B,J pre O A→A.grownBy B none→J pre O B) (hY:b1b X xs ok0 W0 l n J Jx) {ops:Array Oper} {Q:Exit→Act→World→Prop}:∀(rest:List Oper) (sy:Sy) (p:Pre) (a:Act) (w:World) (K:Sy→Pre→Prop),
 b5O X l xs ops.toList rest sy p K→Seg X xs ok0 W0 J Jx p sy a w→(∀sy' p' a' w',K sy' p'→Seg X xs ok0 W0 J Jx p' sy' a' w'→Q .normal a' w')→wpListIn Fence.wide (n+1) X.P ops Q rest a w
 | [],sy,p,a,w,K,h,hs,hQ=>hQ sy p a w h hs
 |o::rest,sy,p,a,w,K,h,hs,hQ=>by
  simp only [b5O]at h
  split at h
  · rename_i args hy
    obtain⟨c,f,hopc,hcf,hca⟩:=a8e hy
    obtain⟨sy1,hs1,hg⟩:=b9J (opsA:=ops) rfl h hs
    rcases hg with⟨hw,hyes⟩|⟨hw,hno⟩
    · simp only [wpListIn,hw,if_true]
      exact c1N hP hJ hY (.inr ⟨c,f,hopc,hcf,hca⟩) hyes hs1 fun sy' p' a' w' hk hs'=>a8U hP hJ hY rest sy' p' a' w' K hk hs' hQ
    · simp only [wpListIn,hw]
      obtain⟨sy2,hk,hs2⟩:=c3p hno hs1
      exact⟨fun _ _=>trivial,a8U hP hJ hY rest sy2 p _ w K hk hs2 hQ⟩
  · rw [c2w]at h
    obtain⟨ok,w0,st,h1,h3,h4,h5⟩:=hs
    have hno:¬LetsOut fun e a w=>e=Exit.normal∧wpListIn Fence.wide (n+1) X.P ops Q rest a w:=by
     rintro⟨a,w,h,_⟩;cases h
    have h:=a8q (ops:=ops) (Q:=fun e a w=>e=Exit.normal∧wpListIn Fence.wide (n+1) X.P ops Q rest a w) b3q hP [o] st sy a w _ h h3 h4 fun st' sy' a' w' hk hs' hl=>
     ⟨rfl,a8U hP hJ hY rest sy' p a' w' K hk ⟨ok,w0,st',h1,hs',hl.rel,h5⟩ hQ⟩
    simp only [wpList]at h
    simp only [wpListIn]
    split at h
    · rename_i hw
      rw [if_pos hw]
      rcases h with h|⟨_,h⟩
      · exact b8w (Oper.wp_mono (fun _ _ h=>h.2) h) hno (by rintro c a w ⟨h,_⟩;cases h)
      · exact absurd h hno
    · rename_i hw
      rw [if_neg hw]
      exact⟨fun _ _=>trivial,h.2⟩
theorem c0F (hP:POK X.P X.tt) (hJ:∀pre O A B,J pre O A→A.grownBy B none→J pre O B) (hY:b1b X xs ok0 W0 l n J Jx) {yl:List (Nat×Nat)} (c:Code):∀(sy:Sy) (p:Pre) (a:Act) (w:World) (K:Exit→Sy→Pre→Prop) (Q:Exit→Act→World→Prop),
 a5d X l xs yl c sy p K→Seg X xs ok0 W0 J Jx p sy a w→(∀e sy' p' a' w',plain e→K e sy' p'→Seg X xs ok0 W0 J Jx p' sy' a' w'→Q e a' w')→c.wp X.P Q a w:=by
 induction c with
 |skip=>exact fun sy p a w K Q h hs hQ=>wp_skip (hQ .normal sy p a w trivial h hs)
 |label l=>exact fun sy p a w K Q h hs hQ=>wp_label (hQ .normal sy p a w trivial h hs)
 |exit id=>exact fun sy p a w K Q h hs hQ=>wp_exit (hQ (.exit id) sy p a w trivial h hs)
 |ret=>exact fun sy p a w K Q h hs hQ=>wp_ret (hQ .ret sy p a w trivial h hs)
 |region id ops draw=>
  intro sy p a w K Q h hs hQ
  cases draw with
  |false=>exact(wpIn_wide (n:=n+1)).1 (wpIn_region_list (a8U hP hJ hY ops.toList sy p a w _ h hs fun sy' p' a' w' hk hs'=>hQ .normal sy' p' a' w' trivial hk hs'))
  |true=>
   simp only [a5d]at h
   split at h
   · split at h
     · rename_i pl _ j _
       obtain⟨hch,hpl,h⟩:=h
       obtain⟨ok,w0,st,h1,hsim,hrel,h5⟩:=hs
       obtain⟨T,H,nk⟩:=sy
       obtain⟨T',H',nk',ws,lo,iv⟩:=st
       have hex:ops.extract 0 j=(ops.toList.take j).toArray:=by apply Array.ext';simp
       have htk:(ops.extract 0 j).toList=ops.toList.take j:=by simp
       rw [←hex]at hpl
       simp only [←htk]at h
       have hx:=a1Z (w0:=w0) (bor:= []) (b3q (ok:=ok) (w0:=w0)) hP _ h (b1u (ops:=(ops.extract 0 j).toList) hsim)
       have hjs:j≤ops.size:=by
        simp only [a7d,Bool.and_eq_true]at hch
        exact Nat.le_of_lt (Nat.blt_eq.mp hch.2.2.2.2)
       have hany:=a3v (X:=cx X w0 []) (Q:=fun e a w=>e=Exit.normal∧wpListIn Fence.wide (n+1) X.P ops Q (ops.toList.drop j) a w) hP hrel hpl hx fun st' a' w' ⟨sy',hk,hs'⟩ hl=>
        ⟨rfl,a8U hP hJ hY _ sy' p a' w' _ hk ⟨ok,w0,st',h1,hs',hl.rel,h5⟩ fun sy' p' a' w' hk hs'=>hQ .normal sy' p' a' w' trivial hk hs'⟩
       have hany:=a9u (n:=n+1) _ _ _ _ hany
       --the whole region at exits that are no panics
       have hcut:=c2Q (n:=n+1) (Q:=Q) hch (fun a w h=>h) (ops.extract 0 j).size ops.size (Array.replicate (ops.extract 0 j).size false) (Array.replicate ops.size false) a { w with drawn:=w.drawn+1} (by simp;omega) (by simp) (fun i hi=>by
        rw [Array.getElem?_eq_getElem (by simp;omega),Array.getElem?_eq_getElem (by simp;omega)];simp) (fun i hi hi2=>by
        rw [Array.getElem?_eq_getElem (by simp;omega)];simp) (fun m i hm=>by
        by_cases h:m<ops.size
        · rw [Array.getElem?_eq_getElem (by simpa using h)]at hm;simp at hm
        · rw [Array.getElem?_eq_none (by simpa using h)]at hm;cases hm) (by simp;omega) hany
       exact(wpIn_wide (n:=n+1)).1 (wpIn_region_any hP.mix hcut)
     · exact c1F hP h hs fun e sy' a' w' hp hk hs'=>hQ e sy' p a' w' hp hk hs'
   · exact h.elim
 |seq x y ihx ihy=>
  intro sy p a w K Q h hs hQ
  refine wp_seq (ihx sy p a w _ _ h hs fun e sy1 p1 a1 w1 hp hk hs1=> ?_)
  cases e with
  |normal=>exact ihy sy1 p1 a1 w1 K Q hk hs1 hQ
  |exit id=>exact hQ _ _ _ _ _ hp hk hs1
  |ret=>exact hQ _ _ _ _ _ hp hk hs1
  |goto l=>exact hp.elim
  |panic c=>exact hp.elim
  |outgrown=>exact hp.elim
 |cond c x y ihx ihy=>
  intro sy p a w K Q h hs hQ
  simp only [a5d]at h
  split at h
  · rename_i b hcd
    obtain⟨ok,w0,st,h1,hsim,hrel,h5⟩:=hs
    obtain⟨s,g1,g2,_⟩:=n8 hsim hcd
    have:=g2.sc;subst this
    have hb:a.eval c= .bool b:=by simpa [den]using (hrel.ev c _ g1).2
    cases b with
    |true=>exact wp_cond_true hb (ihx sy p a w K Q h ⟨ok,w0,st,h1,hsim,hrel,h5⟩ hQ)
    |false=>exact wp_cond_false hb (ihy sy p a w K Q h ⟨ok,w0,st,h1,hsim,hrel,h5⟩ hQ)
  · exact h.elim
 |block id c ih=>
  intro sy p a w K Q h hs hQ
  refine wp_block (ih sy p a w _ _ h hs fun e sy1 p1 a1 w1 hp hk hs1=> ?_)
  cases e with
  |normal=>exact hQ _ _ _ _ _ hp hk hs1
  |exit j=>
   simp only [Exit.inBlock]
   simp only at hk
   split at hk
   · rename_i hb
     rw [if_pos (B9 hb)]
     exact hQ .normal _ _ _ _ trivial hk hs1
   · rename_i hb
     rw [if_neg (a2Y hb)]
     exact hQ _ _ _ _ _ hp hk hs1
  |ret=>exact hQ _ _ _ _ _ hp hk hs1
  |goto l=>exact hp.elim
  |panic c=>exact hp.elim
  |outgrown=>exact hp.elim
 |scope c ih=>
  intro sy p a w K Q h hs hQ
  refine wp_scope_straight (ih sy p a w K _ h hs fun e sy1 p1 a1 w1 hp hk hs1=> ?_)
  cases e with
  |normal=>exact hQ _ _ _ _ _ hp hk hs1
  |exit j=>exact hQ _ _ _ _ _ hp hk hs1
  |ret=>exact hQ _ _ _ _ _ hp hk hs1
  |goto l=>exact hp.elim
  |panic c=>exact hp.elim
  |outgrown=>exact hp.elim
 |loop c ih=>
  intro sy p a w K Q h hs hQ
  have h:a7H (a5d X l xs yl c) sy p K:=h
  obtain⟨α,f,pf,inv,μ,⟨x0,hsub,rfl,hinv⟩,hround⟩:=h.ex
  have sub:∀ {sy sy':Sy} {p:Pre} {a:Act} {w:World},i4 sy sy'→Seg X xs ok0 W0 J Jx p sy a w→Seg X xs ok0 W0 J Jx p sy' a w:=by
   intro sy sy' p a w hsub ⟨ok,w0,st,h1,hsim,hrel,h5⟩
   obtain⟨st0,hs0,hr0,_⟩:=hsub.rel (b3q (ok:=ok) (w0:=w0)) hsim hrel
   exact⟨ok,w0,st0,h1,hs0,hr0,h5⟩
  refine(wpIn_wide (n:=n+1)).1 (wpIn_loop_ghost (fun m a1 w1=>∃x,μ x=m∧inv x∧Seg X xs ok0 W0 J Jx (some (pf x)) (f x) a1 w1) (μ x0) ⟨x0,rfl,hinv,sub hsub hs⟩ ?_)
  rintro m a1 w1 ⟨x,rfl,hinv1,hs1⟩
  refine(wpIn_wide (n:=n+1)).2 (ih (f x) _ a1 w1 _ _ (hround x hinv1) hs1 fun e sy2 p2 a2 w2 hp hk hs2=> ?_)
  cases e with
  |normal=>
   obtain⟨y,hsb,rfl,hi,hlt⟩:=hk
   exact⟨μ y,hlt,y,rfl,hi,sub hsb hs2⟩
  |exit j=>exact hQ _ _ _ _ _ hp hk hs2
  |ret=>exact hQ _ _ _ _ _ hp hk hs2
  |goto l=>exact hp.elim
  |panic c=>exact hp.elim
  |outgrown=>exact hp.elim
 |_=>exact fun sy p a w K Q h hs hQ=>(h:False).elim
end
def c6c (xs:List (List D)) (e:Exit) (_:Sy) (p:Pre):Prop:=match e with
 | .normal=>p=none∨p=some xs
 | .ret=>p=none∨p=some xs
 |_=>False
theorem c2W {X:Cy} (hP:POK X.P X.tt) {f:FuncId} {fn:Func} {c:Code} (caps:List D) (xs:List (List D)) (yl:List (Nat×Nat)) (hf:X.P.funcs[f]?=some fn) (hb:fn.body=some c) (hn:X.nt=fn.ntmps) (hl:caps.length+1≤fn.ntmps) (hres:fn.results= #[])
 (h:∀l,a5d X l xs yl c ⟨a2H 0 (.v (.func (.yield l) #[] #[])::caps), [],0⟩ (some []) (c6c xs)) (h0:X.dfs= []:=by rfl) (hg:fn.ntmps≤R0:=by exact Nat.le_of_ble_eq_true rfl):a7Z X.P f caps xs:=by
 intro ok O0 W vl n l J Jx hrep hok hO hJ hJx hY hJ0
 refine callsIn_wide.2 (calls_of_wp hf hb (c0F (ok0:=ok) (W0:=W) (l:=l) (n:=n) (J:=J) (Jx:=Jx) hP hJ hY c _ _ _ _ _ _ (h l) ?_ fun e sy' p' a' w' hp hk hs'=> ?_))
 · have hlen:=hrep.length
   obtain⟨g1,g2⟩:=a9O (X:=X) (ok:=ok) (w:=W) (a:= { tmps:=(#[.func (.yield l) #[] #[]]++vl.toArray)++Array.replicate (fn.ntmps-(#[Value.func (.yield l) #[] #[]]++vl.toArray).size) undef,defers:= []}) (T:=a2H 0 (.v (.func (.yield l) #[] #[])::caps)) (nk:=0)
    ⟨by simp [hn,←hlen];omega,hn▸hg⟩ h0.symm (fun b hb=>(hok b hb).1) (fun d x hx=>by
     right
     have hr2:j3 ok W (.v (.func (.yield l) #[] #[])::caps) (.func (.yield l) #[] #[]::vl):=by simp only [j3,Rep];exact⟨⟨trivial,rfl⟩,hrep⟩
     obtain⟨_,h2⟩:=a2P hx
     obtain⟨y,h3,h4⟩:=hr2.get h2
     refine⟨y, ?_,h4⟩
     have hlt:=(List.getElem?_eq_some_iff.1 h3).1
     rw [Array.getElem?_append_left (by simp at hlt⊢;omega)]
     have:(#[Value.func (.yield l) #[] #[]]++vl.toArray)=(Value.func (.yield l) #[] #[]::vl).toArray:=by apply Array.ext';simp
     rw [this]
     simpa using h3)
   exact⟨ok,W,_,fun b hb=>⟨(hok b hb).1, .inl hb⟩,g1,g2,Nat.le_refl _,O0,fun b hb=>⟨hO b hb,fun h=>(hok b h).2 hb⟩,hJ0⟩
 · obtain⟨ok1,w0,st,h1,hsim,hrel,h5⟩:=hs'
   have hrun:=a2X (X:=cx X w0 []) hP.tt hrel (fn:=fn) (l:= []) (by rw [hres];rfl)
   have hfx:=b0s (show Fx [] w0 w' from hrel.cls.fx0)
   have fin:(p'=none∨p'=some xs)→a'.defers= []∧∃v,(results fn a'.tmps).run X.P w'= .ok v w'∧(∃v1,Ending.returned v= .returned v1)∧((∃O,J xs O w')∨∃pre,pre<+:xs∧Jx pre w'):=by
    intro hp'
    refine⟨hrel.dfs.trans h0,_,hrun,⟨_,rfl⟩, ?_⟩
    rcases hp' with rfl|rfl
    · obtain⟨pre,h6,h7⟩:=h5
      exact .inr ⟨pre,h6,hJx _ _ _ h7 hfx⟩
    · obtain⟨_,O,_,h7⟩:=h5
      exact .inl ⟨O,hJ _ _ _ _ h7 hfx⟩
   cases e with
   |normal=>exact fin hk
   |ret=>exact fin hk
   |exit id=>exact hk.elim
   |goto l=>exact hp.elim
   |panic c=>exact hp.elim
   |outgrown=>exact hp.elim
end Go.Sx
namespace Go.Sx
open Go Go.RowKit
def a0p {S E α:Type} (m:S→α→Option (Sum S E)):List α→S→Option (Sum S E)
 | [],s=>some (.inl s)
 |x::xs,s=>match m s x with
  |none=>none
  |some (.inl s')=>a0p m xs s'
  |some (.inr e)=>some (.inr e)
def emit {α R:Type} (x:α) (m:Option (List α×R)):Option (List α×R):=match m with|none=>none|some (l,r)=>some (x::l,r)
def b2y {α E R:Type} (m:Option (List α×E)) (f:E→Option (List α×R)):Option (List α×R):=match m with
 |none=>none
 |some (l,e)=>match f e with
  |none=>none
  |some (l',r)=>some (l++l',r)
def a3w {S E α:Type} (body:S→Option (List α×Sum S E)):Nat→S→Option (List α×E)
 |0,_=>none
 |n+1,s=>match body s with
  |none=>none
  |some (l, .inl s')=>match a3w body n s' with
   |none=>none
   |some (l',e)=>some (l++l',e)
  |some (l, .inr e)=>some (l,e)
def a5W {S E α:Type} (body:S→Option (List α×Sum S E)) (s:S):Option (List α×E):=a3w body a3k s
theorem a2n {α R:Type} {x:α} {m:Option (List α×R)} {r:List α×R} (h:emit x m=some r):∃r',m=some r'∧r.1=x::r'.1∧r.2=r'.2:=by
 unfold emit at h
 split at h
 · cases h
 · cases h;exact⟨_,rfl,rfl,rfl⟩
theorem a5J {α E R:Type} {m:Option (List α×E)} {f:E→Option (List α×R)} {r:List α×R} (h:b2y m f=some r):∃e r',m=some e∧f e.2=some r'∧r.1=e.1++r'.1∧r.2=r'.2:=by
 unfold b2y at h
 split at h
 · cases h
 · split at h
   · cases h
   · rename_i l' r' hf
     cases h
     exact⟨_,_,rfl,hf,rfl,rfl⟩
theorem a5E {S E α:Type} {body:S→Option (List α×Sum S E)} {n:Nat} {s:S} {e:List α×E} (h:a3w body n s=some e):∃m b t,n=m+1∧body s=some b∧e.1=b.1++t∧(match b.2 with
 | .inl s'=>∃e',a3w body m s'=some e'∧t=e'.1∧e.2=e'.2
 | .inr x=>t= []∧e.2=x):=by
 cases n with
 |zero=>cases h
 |succ n=>
  simp only [a3w]at h
  split at h
  · cases h
  · rename_i l s' hb
    split at h
    · cases h
    · rename_i l' e' he
      cases h
      exact⟨n,_,_,rfl,hb,rfl,_,he,rfl,rfl⟩
  · rename_i l x hb
    cases h
    exact⟨n,_, [],rfl,hb,by simp,rfl,rfl⟩
structure Hp3 {α:Type} (enc:α→List D) (q:List (List D)) (l:List α) (post xs:List (List D)):Prop where
 eq:q++l.map enc++post=xs
section
variable {α : Type} {enc : α → List D} {q post xs : List (List D)} {l l' : List α} {x : α}
theorem Hp3.emit (h:Hp3 enc q l post xs) (hl:l=x::l'):Hp3 enc (q++ [enc x]) l' post xs:=⟨by rw [←h.eq,hl];simp⟩
theorem Hp3.pre (h:Hp3 enc q l post xs) (hl:l=x::l'):q++ [enc x]<+:xs:=⟨l'.map enc++post,by rw [←h.eq,hl];simp⟩
theorem Hp3.in1 {l1 l2:List α} (h:Hp3 enc q l post xs) (hl:l=l1++l2):Hp3 enc q l1 (l2.map enc++post) xs:=⟨by rw [←h.eq,hl];simp⟩
theorem Hp3.out (h:Hp3 enc q l (l'.map enc++post) xs) (hl:l= []):Hp3 enc q l' post xs:=⟨by rw [←h.eq,hl];simp⟩
theorem Hp3.done (h:Hp3 enc q l [] xs) (hl:l= []):q=xs:=by rw [←h.eq,hl];simp
end
theorem a7H.of {body:Sy→Pre→(Exit→Sy→Pre→Prop)→Prop} {st:Sy} {q:List (List D)} {K:Exit→Sy→Pre→Prop} {α:Type} (f:α→Sy) (inv:α→List (List D)→Prop) (μ:α→Nat) (x0:α) (hi:inv x0 q) (h0:i4 st (f x0))
 (h:∀x q,inv x q→body (f x) (some q) fun e st2 p2=>match e with
  | .normal=>∃y q',i4 st2 (f y)∧p2=some q'∧inv y q'∧μ y<μ x
  |e=>K e st2 p2):a7H body st (some q) K:=by
 refine⟨⟨α×List (List D),fun x=>f x.1,fun x=>x.2,fun x=>inv x.1 x.2,fun x=>μ x.1,⟨(x0,q),h0,rfl,hi⟩,fun x hx=> ?_⟩⟩
 have:=h x.1 x.2 hx
 have mono:(fun(e:Exit) (st2:Sy) (p2:Pre)=>match e with
  | .normal=>∃y q',i4 st2 (f y)∧p2=some q'∧inv y q'∧μ y<μ x.1
  |e=>K e st2 p2)=fun e st2 p2=>match e with
  | .normal=>∃y:α×List (List D),i4 st2 (f y.1)∧p2=some y.2∧inv y.1 y.2∧μ y.1<μ x.1
  |e=>K e st2 p2:=by
  funext e st2 p2
  cases e<;>simp
 exact(mono▸this:_)
theorem a7V.of {X:Cy} {l:Nat} {xs:List (List D)} {st:Sy} {o:Oper} {args:List Operand} {q:List (List D)} {K:Sy→Pre→Prop} {x x':List D} (h1:b1e st o=some (.v (.func (.yield l) #[] #[]))) (h2:a8m st args=some x) (h3:a3m st (.tup x) fun y=>y= .tup x') (h4:q++ [x']<+:xs)
 (h5:Y1 X ⟨b2Q st.T, [],st.nk⟩ o.dst (.v (.bool true)) fun st=>K st (some (q++ [x']))) (h6:Y1 X ⟨b7F st.T, [],st.nk⟩ o.dst (.v (.bool false)) fun st=>K st none):a7V X l xs st o args (some q) K:=⟨⟨q,x,x',h1,rfl,h2,h3,h4,h5,h6⟩⟩
theorem a1t.of {X:Cy} {l:Nat} {xs:List (List D)} {st:Sy} {o:Oper} {args:List Operand} {q:List (List D)} {K:Sy→Pre→Prop} {x x':List D} (h1:b1e st o=some (.v (.func (.yield l) #[] #[]))) (h2:a8m st args=some x) (h3:a3m st (.tup x) fun y=>y= .tup x') (h4:q++ [x']<+:xs)
 (h5:Y1 X ⟨b2Q st.T, [],st.nk⟩ o.dst (.v (.bool true)) fun st=>K st (some (q++ [x']))) (h6:Y1 X ⟨b7F st.T, [],st.nk⟩ o.dst (.v (.bool false)) fun st=>K st none):a1t X l xs st o args (some q) K:=⟨[],st,rfl,a7V.of h1 h2 h3 h4 h5 h6⟩
theorem a1t.fz {X:Cy} {l:Nat} {xs:List (List D)} {st st0:Sy} {o:Oper} {args:List Operand} {p:Pre} {K:Sy→Pre→Prop} (ks:List Nat) (h:a5l ks st []=some (st0, [])) (hz:a7V X l xs st0 o args p K):a1t X l xs st o args p K:=⟨ks,st0,h,hz⟩
theorem c0T {P:Program} {tt:List (Nat×TI)} (hP:POK P tt) {g:Nat} {fn:Func} {c:Code} (hfn:P.funcs[g]?=some fn) (hb:fn.body=some c):∀args w,(callFunc g args).run P w= .ok (.enter g args) w:=by
 intro args w
 have hng:=hP.ng g fn hfn
 simp only [callFunc,Sem.run_bind,run_program,hfn,Result.andThen_ok]
 simp [hng,hb]
def b7v (fz:List Nat):List (Nat×D)→Bool
 | []=>true
 |(d,_)::T=>match R8 d fz with|true=>b7v fz T|false=>false
theorem a8I {fz:List Nat} {d:Nat} {x:D}:∀ {T:List (Nat×D)},b7v fz T=true→w8 T d=some x→d∈fz
 | [],_,h=>by cases h
 |(e,y)::T,h,hx=>by
  simp only [b7v]at h
  simp only [w8]at hx
  split at h
  · rename_i hm
    split at hx
    · rename_i hb;obtain rfl:=B9 hb;exact M6.1 hm
    · exact a8I h hx
  · cases h
theorem b5z {S E α:Type} {m:S→α→Option (Sum S E)}:∀(l:List α) (x:α) (r:List α) (s:S) {s1:S} {ev:Sum S E},a0p m l s=some (.inl s1)→a0p m (l++x::r) s=some ev→∃b,m s1 x=some b∧a0p m (l++ [x]) s=some b:=by
 intro l x r s s1 ev h1 h2
 induction l generalizing s with
 |nil=>
  simp only [a0p]at h1
  cases h1
  simp only [List.nil_append,a0p]at h2⊢
  cases hm:m s1 x with
  |none=>rw [hm]at h2;cases h2
  |some b=>refine⟨b,rfl, ?_⟩;cases b<;>rfl
 |cons y l ih=>
  simp only [a0p,List.cons_append]at h1 h2⊢
  cases hm:m s y with
  |none=>rw [hm]at h1;cases h1
  |some b=>
   rw [hm]at h1 h2
   cases b with
   |inl s'=>exact ih s' h1 h2
   |inr e=>cases h1
theorem a5G.of {X:Cy} {g:Operand} {ps:Array Tmp} {assign body:Code} {st:Sy} {K:Exit→Sy→Prop} {α S E:Type} {gf:FuncId} {caps:List D} (enc:α→List D) (xs:List α) (m:S→α→Option (Sum S E)) (f:S→Sy) (fe:E→Sy) (ex:E→Exit) (s0:S) (ev:Sum S E)
 (fz:List Nat) (hit:a7Z X.P gf caps (xs.map enc)) (hm:a0p m xs s0=some ev) (heg:∀args w,(callFunc gf args).run X.P w= .ok (.enter gf args) w)
 (hg:evY st g=some (.fn gf [] caps)) (hcl:V9 caps=true) (hps:∀x,(enc x).length=ps.size) (hasg:S7 fz assign=true) (hr:S7 fz body=true) (hf:a8b fz ps.toList=true) (hdom:∀s,b7v fz (f s).T=true) (hdome:∀e,b7v fz (fe e).T=true)
 (hsub:i4 st (f s0)) (hdone:∀s,ev= .inl s→K .normal (f s)) (hstop:∀s,ev= .inr s→K (ex s) (fe s)) (hex:∀e,ex e= .ret∨∃id,ex e= .exit id)
 (hround:∀s x b,m s x=some b→b3f { X with dfs:= []} ps.toList (enc x) (f s) fun st1=>U8 { X with dfs:= []} assign st1<|b0Z { X with dfs:= []} body fun e sy=>match e with
  | .normal=>∃s',b= .inl s'∧i4 sy (f s')
  | .ret=>∃s',b= .inr s'∧ex s'= .ret∧i4 sy (fe s')
  | .exit id=>∃s',b= .inr s'∧ex s'= .exit id∧i4 sy (fe s')
  |_=>False):a5G X g ps assign body st K:=by
 have key:∀(pre:List (List D)) (x:List D),pre++ [x]<+:xs.map enc→∃y r,x=enc y∧xs=xs.take pre.length++y::r∧xs.take (pre.length+1)=xs.take pre.length++ [y]:=by
  rintro pre x ⟨t,ht⟩
  have hlt:pre.length<xs.length:=by
   have:=congrArg List.length ht
   simp at this;omega
  refine⟨xs[pre.length],xs.drop (pre.length+1), ?_, ?_, ?_⟩
  · have h1:(xs.map enc)[pre.length]?=some x:=by rw [←ht];simp
    rw [List.getElem?_map,List.getElem?_eq_getElem hlt]at h1
    exact(Option.some.inj h1).symm
  · rw [←List.drop_eq_getElem_cons hlt,List.take_append_drop]
  · rw [List.take_add_one,List.getElem?_eq_getElem hlt];rfl
 --a round that stops:its way out is the whole's
 have stop:∀(l:List α) (y:α) (r:List α) (e:E) (s:S),a0p m (l++ [y]) s=some (.inr e)→a0p m (l++y::r) s=some (.inr e):=by
  intro l y r e s
  induction l generalizing s with
  |nil=>
   intro h
   simp only [List.nil_append,a0p]at h⊢
   cases hb:m s y with
   |none=>rw [hb]at h;cases h
   |some b=>
    rw [hb]at h
    cases b with
    |inl s'=>cases h
    |inr e'=>exact h
  |cons z l ih=>
   intro h
   simp only [List.cons_append,a0p]at h⊢
   cases hb:m s z with
   |none=>rw [hb]at h;cases h
   |some b=>
    rw [hb]at h
    cases b with
    |inl s'=>exact ih s' h
    |inr e'=>exact h
 refine⟨⟨gf,caps,xs.map enc,fz,Sum S E,fun s=>match s with| .inl s=>f s| .inr e=>fe e,fun _ s=>match s with| .inl s=>f s| .inr e=>fe e,
  fun pre s=>∃s',s= .inl s'∧a0p m (xs.take pre.length) s0=some (.inl s'),fun e _ s=>∃s',s= .inr s'∧ex s'=e∧ev= .inr s', .inl s0,hg,hcl,hit,heg, ?_,hasg,hr,hf,hsub,⟨s0,rfl,rfl⟩, ?_, ?_, ?_, ?_, ?_⟩⟩
 · intro x hx
   obtain⟨y,_,rfl⟩:=List.mem_map.1 hx
   exact hps y
 · intro s d x hx
   cases s with
   |inl s=>exact a8I (hdom s) hx
   |inr s=>exact a8I (hdome s) hx
 · intro e s d x hx
   cases s with
   |inl s=>exact a8I (hdom s) hx
   |inr s=>exact a8I (hdome s) hx
 · rintro pre s x hpre ⟨s',rfl,hl⟩
   obtain⟨y,r,rfl,e2,e3⟩:=key _ _ hpre
   obtain⟨b,hb,hb2⟩:=b5z _ y r s0 hl (e2▸hm)
   have hlen:(pre++ [enc y]).length=pre.length+1:=by simp
   refine⟨_,fun e sy h=> ?_,hround s' y b hb⟩
   ·
     have hout:∀s',b= .inr s'→ev= .inr s':=by
      intro s' hbs
      subst hbs
      have:=stop _ y r s' s0 hb2
      rw [←e2,hm]at this
      exact Option.some.inj this
     cases e with
     |normal=>
      obtain⟨s2,rfl,h2⟩:=h
      exact⟨.inl s2,⟨s2,rfl,by rw [hlen,e3];exact hb2⟩,h2⟩
     |ret=>
      obtain⟨s2,h1,h2,h3⟩:=h
      exact⟨.inr s2,⟨s2,rfl,h2,hout s2 h1⟩,h3⟩
     |exit id=>
      obtain⟨s2,h1,h2,h3⟩:=h
      exact⟨.inr s2,⟨s2,rfl,h2,hout s2 h1⟩,h3⟩
     |_=>exact h.elim
 · rintro s ⟨s',rfl,hr⟩
   rw [List.length_map,List.take_length]at hr
   rw [hm]at hr
   exact hdone s' (Option.some.inj hr)
 · rintro e pre s hpre ⟨s',rfl,rfl,h2⟩ he
   exact hstop s' h2
end Go.Sx
namespace Go.Sx
open Go Go.RowKit
def c1Z (X:Cy) (ops:List Oper) (l:List Oper):Sy→(Sy→Prop)→Prop:=by
 induction l with
 |nil=>exact fun st K=>K st
 |cons o rest ih=>exact fun st K=>a2M ops o.guard st (fun st=>y1 X st o.op (a6n X true st o.dst fun st=>ih st K)) (fun st=>Y1 X st o.dst .und fun st=>ih st K)
theorem c2h (X:Cy) (ops l:List Oper):c1Z X ops l=fun st K=>b4S X ops l st K:=by
 induction l with
 |nil=>rfl
 |cons o rest ih=>
  funext st K
  show a2M ops o.guard st (fun st=>y1 X st o.op (a6n X true st o.dst fun st=>c1Z X ops rest st K)) (fun st=>Y1 X st o.dst .und fun st=>c1Z X ops rest st K)=_
  rw [ih];rfl
def a8B (X:Cy) (ops:List Oper) (p:PT):Sy→List (Nat×Option Nat)→(Sy→Prop)→Prop:=by
 induction p with
 |nil=>exact fun st _ K=>K st
 |op i S fl rest ih=>exact fun st pr K=>match b2W ops i with
  |some o=>a2M ops o.guard st
   (fun st=>b3o X ops rest i S fl pr o st fun st pr=>ih st pr K)
   (fun st=>Y1 X st o.dst .und fun st=>ih st pr K)
  |none=>False
 |fork a b iha ihb=>exact fun st pr K=>iha st pr K∧ihb st pr K
theorem b5Q (X:Cy) (ops:List Oper) (p:PT):a8B X ops p=fun st pr K=>a6d X ops p st pr K:=by
 induction p with
 |nil=>rfl
 |op i S fl rest ih=>
  funext st pr K
  show(match b2W ops i with
   |some o=>a2M ops o.guard st (fun st=>b3o X ops rest i S fl pr o st fun st pr=>a8B X ops rest st pr K) (fun st=>Y1 X st o.dst .und fun st=>a8B X ops rest st pr K)
   |none=>False)=_
  rw [ih];rfl
 |fork a b iha ihb=>
  funext st pr K
  show(a8B X ops a st pr K∧a8B X ops b st pr K)=_
  rw [iha,ihb];rfl
def R7 (X:Cy) (c:Code):Sy→(Exit→Sy→Prop)→Prop:=by
 induction c with
 |skip=>exact fun st K=>K .normal st
 |region id ops draw=>exact fun st K=>match draw with
  |false=>c1Z X ops.toList ops.toList st (K .normal)
  |true=>match b6T X.pl id with
   |some p=>a6t X.tt X.nt ops p=true∧(match st with|⟨T,H,nk⟩=>a8B X ops.toList p ⟨a7a ops.toList T,H,nk⟩ [] (K .normal))
   |none=>False
 |seq a b iha ihb=>exact fun st K=>iha st fun e st'=>match e with
  | .normal=>ihb st' K
  |e=>K e st'
 |cond c t e iht ihe=>exact fun st K=>match evY st c with
  |some (.v (.bool b))=>VIf b (iht st K) (ihe st K)
  |_=>False
 |block id c ih=>exact fun st K=>ih st fun e st'=>match e with
  | .exit j=>match Nat.beq j id with
   |true=>K .normal st'
   |false=>K (.exit j) st'
  |e=>K e st'
 |loop c ih=>exact fun st K=>z7 ih st K
 |exit id=>exact fun st K=>K (.exit id) st
 |ret=>exact fun st K=>K .ret st
 |scope c ih=>exact fun st K=>ih st K
 |label _=>exact fun st K=>K .normal st
 |_=>exact fun _ _=>False
theorem a0Y (X:Cy) (c:Code):R7 X c=fun st K=>U8 X c st K:=by
 induction c with
 |region id ops draw=>
  funext st K
  show(match draw with
  |false=>c1Z X ops.toList ops.toList st (K .normal)
  |true=>match b6T X.pl id with
   |some p=>a6t X.tt X.nt ops p=true∧(match st with|⟨T,H,nk⟩=>a8B X ops.toList p ⟨a7a ops.toList T,H,nk⟩ [] (K .normal))
   |none=>False)=_
  simp only [c2h,b5Q];rfl
 |seq a b iha ihb=>
  funext st K
  show(R7 X a st fun e st'=>match e with| .normal=>R7 X b st' K|e=>K e st')=_
  rw [iha,ihb];rfl
 |cond c t e iht ihe=>
  funext st K
  show(match evY st c with|some (.v (.bool b))=>VIf b (R7 X t st K) (R7 X e st K)|_=>False)=_
  rw [iht,ihe];rfl
 |block id c ih=>
  funext st K
  show(R7 X c st fun e st'=>match e with| .exit j=>(match Nat.beq j id with|true=>K .normal st'|false=>K (.exit j) st')|e=>K e st')=_
  rw [ih];rfl
 |loop c ih=>
  funext st K
  show z7 (R7 X c) st K=_
  rw [ih];rfl
 |scope c ih=>
  funext st K
  show R7 X c st K=_
  rw [ih];rfl
 |_=>rfl
theorem b0U {X:Cy} {c:Code} {st:Sy} {K:Exit→Sy→Prop} (h:R7 X c st K):U8 X c st K:=by rw [a0Y]at h;exact h
def b7W (X:Cy) (body:Code) (K:Exit→Sy→Prop):Exit→Sy→Prop
 | .normal,st=>R7 X body st K
 |_,_=>False
theorem b6x (X:Cy) (body:Code) (K:Exit→Sy→Prop):b7W X body K=b0Z X body K:=by
 funext e st
 cases e<;>first|rfl|(show R7 X body st K=_;rw [a0Y];rfl)
def a6M (X:Cy) (c:Code):Sy→(Exit→Sy→Prop)→Prop:=by
 induction c with
 |seq a b iha ihb=>exact fun st K=>iha st fun e st'=>match e with
  | .normal=>ihb st' K
  |e=>K e st'
 |block id c ih=>exact fun st K=>ih st fun e st'=>match e with
  | .exit j=>(match Nat.beq j id with|true=>K .normal st'|false=>K (.exit j) st')
  |e=>K e st'
 |cond c t e iht ihe=>exact fun st K=>match evY st c with
  |some (.v (.bool b))=>VIf b (iht st K) (ihe st K)
  |_=>False
 |scope c ih=>exact fun st K=>ih st K
 |rangeFunc g ps assign body=>exact fun st K=>a5G X g ps assign body st K
 |skip=>exact fun st K=>∀ds,R7 { X with dfs:=ds} .skip st K
 |region id ops draw=>exact fun st K=>∀ds,R7 { X with dfs:=ds} (.region id ops draw) st K
 |loop c=>exact fun st K=>∀ds,R7 { X with dfs:=ds} (.loop c) st K
 |exit id=>exact fun st K=>∀ds,R7 { X with dfs:=ds} (.exit id) st K
 |ret=>exact fun st K=>∀ds,R7 { X with dfs:=ds} .ret st K
 |label l=>exact fun st K=>∀ds,R7 { X with dfs:=ds} (.label l) st K
 |_=>exact fun st K=>List Deferred→False
theorem b9M (X:Cy) (c:Code):a6M X c=fun st K=>a6v X c st K:=by
 induction c with
 |seq a b iha ihb=>
  funext st K
  show(a6M X a st fun e st'=>match e with| .normal=>a6M X b st' K|e=>K e st')=_
  rw [iha,ihb];rfl
 |cond c t e iht ihe=>
  funext st K
  show(match evY st c with|some (.v (.bool b))=>VIf b (a6M X t st K) (a6M X e st K)|_=>False)=_
  rw [iht,ihe];rfl
 |block id c ih=>
  funext st K
  show(a6M X c st fun e st'=>match e with| .exit j=>(match Nat.beq j id with|true=>K .normal st'|false=>K (.exit j) st')|e=>K e st')=_
  rw [ih];rfl
 |scope c ih=>
  funext st K
  show a6M X c st K=_
  rw [ih];rfl
 |rangeFunc=>rfl
 |skip=>funext st K;show(∀ds,R7 { X with dfs:=ds} .skip st K)=_;simp only [a0Y];rfl
 |region id ops draw=>funext st K;show(∀ds,R7 { X with dfs:=ds} (.region id ops draw) st K)=_;simp only [a0Y];rfl
 |loop c=>funext st K;show(∀ds,R7 { X with dfs:=ds} (.loop c) st K)=_;simp only [a0Y];rfl
 |exit id=>funext st K;show(∀ds,R7 { X with dfs:=ds} (.exit id) st K)=_;simp only [a0Y];rfl
 |ret=>funext st K;show(∀ds,R7 { X with dfs:=ds} .ret st K)=_;simp only [a0Y];rfl
 |label l=>funext st K;show(∀ds,R7 { X with dfs:=ds} (.label l) st K)=_;simp only [a0Y];rfl
 |_=>rfl
def a9Z (X:Cy) (l:Nat) (xs:List (List D)) (ops:List Oper) (r:List Oper):Sy→Pre→(Sy→Pre→Prop)→Prop:=by
 induction r with
 |nil=>exact fun st p K=>K st p
 |cons o rest ih=>exact fun st p K=>match a5C st o with
  |some args=>a2M ops o.guard st (fun st=>a1t X l xs st o args p fun st p=>ih st p K) (fun st=>Y1 X st o.dst .und fun st=>ih st p K)
  |none=>c2y X ops o st fun st=>ih st p K
theorem c0j (X:Cy) (l:Nat) (xs:List (List D)) (ops:List Oper) (r:List Oper):a9Z X l xs ops r=fun st p K=>b5O X l xs ops r st p K:=by
 induction r with
 |nil=>rfl
 |cons o rest ih=>
  funext st p K
  show(match a5C st o with
   |some args=>a2M ops o.guard st (fun st=>a1t X l xs st o args p fun st p=>a9Z X l xs ops rest st p K) (fun st=>Y1 X st o.dst .und fun st=>a9Z X l xs ops rest st p K)
   |none=>c2y X ops o st fun st=>a9Z X l xs ops rest st p K)=_
  rw [ih];rfl
def a5U (X:Cy) (l:Nat) (xs:List (List D)) (yl:List (Nat×Nat)) (c:Code):Sy→Pre→(Exit→Sy→Pre→Prop)→Prop:=by
 induction c with
 |skip=>exact fun st p K=>K .normal st p
 |region id ops draw=>exact fun st p K=>match draw with
  |false=>a9Z X l xs ops.toList ops.toList st p (K .normal)
  |true=>match b6T X.pl id with
   |some pl=>match c2q yl id with
    |some j=>a7d ops j=true∧a6t X.tt X.nt (ops.toList.take j).toArray pl=true∧(match st with|⟨T,H,nk⟩=>a8B X (ops.toList.take j) pl ⟨a7a (ops.toList.take j) T,H,nk⟩ [] fun st=>a9Z X l xs ops.toList (ops.toList.drop j) st p (K .normal))
    |none=>R7 X (.region id ops true) st fun e st=>K e st p
   |none=>False
 |seq a b iha ihb=>exact fun st p K=>iha st p fun e st' p'=>match e with
  | .normal=>ihb st' p' K
  |e=>K e st' p'
 |cond c t e iht ihe=>exact fun st p K=>match evY st c with
  |some (.v (.bool b))=>VIf b (iht st p K) (ihe st p K)
  |_=>False
 |block id c ih=>exact fun st p K=>ih st p fun e st' p'=>match e with
  | .exit j=>match Nat.beq j id with
   |true=>K .normal st' p'
   |false=>K (.exit j) st' p'
  |e=>K e st' p'
 |loop c ih=>exact fun st p K=>a7H ih st p K
 |exit id=>exact fun st p K=>K (.exit id) st p
 |ret=>exact fun st p K=>K .ret st p
 |scope c ih=>exact fun st p K=>ih st p K
 |label _=>exact fun st p K=>K .normal st p
 |_=>exact fun _ _ _=>False
theorem b9F (X:Cy) (l:Nat) (xs:List (List D)) (yl:List (Nat×Nat)) (c:Code):a5U X l xs yl c=fun st p K=>a5d X l xs yl c st p K:=by
 induction c with
 |region id ops draw=>
  funext st p K
  show(match draw with
  |false=>a9Z X l xs ops.toList ops.toList st p (K .normal)
  |true=>match b6T X.pl id with
   |some pl=>match c2q yl id with
    |some j=>a7d ops j=true∧a6t X.tt X.nt (ops.toList.take j).toArray pl=true∧(match st with|⟨T,H,nk⟩=>a8B X (ops.toList.take j) pl ⟨a7a (ops.toList.take j) T,H,nk⟩ [] fun st=>a9Z X l xs ops.toList (ops.toList.drop j) st p (K .normal))
    |none=>R7 X (.region id ops true) st fun e st=>K e st p
   |none=>False)=_
  simp only [c0j,b5Q,a0Y];rfl
 |seq a b iha ihb=>
  funext st p K
  show(a5U X l xs yl a st p fun e st' p'=>match e with| .normal=>a5U X l xs yl b st' p' K|e=>K e st' p')=_
  rw [iha,ihb];rfl
 |cond c t e iht ihe=>
  funext st p K
  show(match evY st c with|some (.v (.bool b))=>VIf b (a5U X l xs yl t st p K) (a5U X l xs yl e st p K)|_=>False)=_
  rw [iht,ihe];rfl
 |block id c ih=>
  funext st p K
  show(a5U X l xs yl c st p fun e st' p'=>match e with| .exit j=>(match Nat.beq j id with|true=>K .normal st' p'|false=>K (.exit j) st' p')|e=>K e st' p')=_
  rw [ih];rfl
 |loop c ih=>
  funext st p K
  show a7H (a5U X l xs yl c) st p K=_
  rw [ih];rfl
 |scope c ih=>
  funext st p K
  show a5U X l xs yl c st p K=_
  rw [ih];rfl
 |_=>rfl
def b7E (X:Cy) (n:Nat):Code→Sy→(Exit→Sy→Prop)→(Sy→Prop)→Prop:=by
 induction n with
 |zero=>exact fun _ st _ KT=>KT st
 |succ n ih=>exact fun c st K KT=>match c with
  | .seq a b=>R7 X a st fun e st'=>match e with
   | .normal=>ih b st' K KT
   |e=>K e st'
  |_=>False
theorem c0b (X:Cy) (n:Nat):b7E X n=fun c st K KT=>b8C X n c st K KT:=by
 induction n with
 |zero=>rfl
 |succ n ih=>
  funext c st K KT
  cases c with
  |seq a b=>
   show(R7 X a st fun e st'=>match e with| .normal=>b7E X n b st' K KT|e=>K e st')=_
   rw [ih,a0Y];rfl
  |_=>rfl
theorem c2z {X:Cy} (hP:POK X.P X.tt) {f:FuncId} {fn:Func} {c:Code} (args:List D) {Qr:D→Prop} (hf:X.P.funcs[f]?=some fn) (hb:fn.body=some c) (hn:X.nt=fn.ntmps) (hl:args.length≤fn.ntmps)
 (h:R7 X c ⟨a2H 0 args, [],0⟩ (b9O X fn.results.toList Qr)) (h0:X.dfs= []:=by rfl) (hg:fn.ntmps≤R0:=by exact Nat.le_of_ble_eq_true rfl):l8 X.P f args Qr:=
 c4v hP args hf hb hn hl (b0U h) h0 hg
theorem c2C {X:Cy} (hP:POK X.P X.tt) {f:FuncId} {fn:Func} {c:Code} (args:List D) {Qr:D→Prop} (hf:X.P.funcs[f]?=some fn) (hb:fn.body=some c) (hn:X.nt=fn.ntmps) (hl:args.length≤fn.ntmps)
 (h:a6M X c ⟨a2H 0 args, [],0⟩ (b9O X fn.results.toList Qr)) (hg:fn.ntmps≤R0:=by exact Nat.le_of_ble_eq_true rfl):l8 X.P f args Qr:=
 c4q hP args hf hb hn hl (by rw [b9M]at h;exact h) hg
theorem c3j {X:Cy} (hP:POK X.P X.tt) {f:FuncId} {fn:Func} {c:Code} (args:List D) {rows:List (Nat×Nat×List D×TypeId)} {cells:List D} (hf:X.P.funcs[f]?=some fn) (hb:fn.body=some c) (hn:X.nt=fn.ntmps) (hl:args.length≤fn.ntmps) (hfl:D3 cells=true)
 (h:R7 X c ⟨a2H 0 args, [],0⟩ (c0R X fn.results.toList rows cells)) (h0:X.dfs= []:=by rfl) (hg:fn.ntmps≤R0:=by exact Nat.le_of_ble_eq_true rfl):b8v X.P f args rows cells:=
 c4t hP args hf hb hn hl hfl (b0U h) h0 hg
theorem a8O {X:Cy} (hP:POK X.P X.tt) {f:FuncId} {fn:Func} {c:Code} (args:List D) {z n:Nat} {l:List D} {ty:TypeId} (hf:X.P.funcs[f]?=some fn) (hb:fn.body=some c) (hn:X.nt=fn.ntmps) (hl:args.length≤fn.ntmps)
 (h:R7 X c ⟨a2H 0 args, [],0⟩ (b5x X fn.results.toList z n l ty)) (h0:X.dfs= []:=by rfl) (hg:fn.ntmps≤R0:=by exact Nat.le_of_ble_eq_true rfl):b0x X.P f args z n l ty:=
 c4s hP args hf hb hn hl (b0U h) h0 hg
theorem O9.ofZ {X:Cy} {f:FuncId} {args:List D} {dst:Option Nat} {st:Sy} {K:Sy→Prop} (hP:POK X.P X.tt) (st0 st1:Sy) (pl:List (Nat×PT)) (ln un inl:List Nat) {fn:Func} {c:Code} (hf:X.P.funcs[f]?=some fn) (hb:fn.body=some c)
 (hg:Nat.ble fn.ntmps 1000000=true) (hl:Nat.ble args.length fn.ntmps=true) (hs:i4 ⟨a2H 0 args++a0u X.nt st.T,st.H,st.nk⟩ st0)
 (hbody:∀sv,R7 ⟨X.P,X.tt,fn.ntmps,pl,ln,un, [],inl,sv⟩ c st0 (c0x X ⟨X.P,X.tt,fn.ntmps,pl,ln,un, [],inl, []⟩ fn.results.toList dst fun sy=>i4 sy st1)) (hk:K st1):O9 X f args dst st K:=
 O9.ofP hP st0 st1 pl ln un inl hf hb hg hl hs (fun sv=>b0U (hbody sv)) hk
theorem a5G.ofZ {X:Cy} {g:Operand} {ps:Array Tmp} {assign body:Code} {st:Sy} {K:Exit→Sy→Prop} {α S E:Type} {gf:FuncId} {caps:List D} (enc:α→List D) (xs:List α) (m:S→α→Option (Sum S E)) (f:S→Sy) (fe:E→Sy) (ex:E→Exit) (s0:S) (ev:Sum S E)
 (fz:List Nat) (hit:a7Z X.P gf caps (xs.map enc)) (hm:a0p m xs s0=some ev) (heg:∀args w,(callFunc gf args).run X.P w= .ok (.enter gf args) w)
 (hg:evY st g=some (.fn gf [] caps)) (hcl:V9 caps=true) (hps:∀x,(enc x).length=ps.size) (hasg:S7 fz assign=true) (hr:S7 fz body=true) (hf:a8b fz ps.toList=true) (hdom:∀s,b7v fz (f s).T=true) (hdome:∀e,b7v fz (fe e).T=true)
 (hsub:i4 st (f s0)) (hdone:∀s,ev= .inl s→K .normal (f s)) (hstop:∀s,ev= .inr s→K (ex s) (fe s)) (hex:∀e,ex e= .ret∨∃id,ex e= .exit id)
 (hround:∀s x b,m s x=some b→b3f { X with dfs:= []} ps.toList (enc x) (f s) fun st1=>R7 { X with dfs:= []} assign st1<|b7W { X with dfs:= []} body fun e sy=>match e with
  | .normal=>∃s',b= .inl s'∧i4 sy (f s')
  | .ret=>∃s',b= .inr s'∧ex s'= .ret∧i4 sy (fe s')
  | .exit id=>∃s',b= .inr s'∧ex s'= .exit id∧i4 sy (fe s')
  |_=>False):a5G X g ps assign body st K:=
 a5G.of enc xs m f fe ex s0 ev fz hit hm heg hg hcl hps hasg hr hf hdom hdome hsub hdone hstop hex fun s x b hb=>by
  have h:=hround s x b hb
  simp only [a0Y,b6x]at h
  exact h
theorem c0d {X:Cy} (hP:POK X.P X.tt) {f:FuncId} {fn:Func} {c:Code} (caps:List D) (xs:List (List D)) (yl:List (Nat×Nat)) (hf:X.P.funcs[f]?=some fn) (hb:fn.body=some c) (hn:X.nt=fn.ntmps) (hl:caps.length+1≤fn.ntmps) (hres:fn.results= #[])
 (h:∀l,a5U X l xs yl c ⟨a2H 0 (.v (.func (.yield l) #[] #[])::caps), [],0⟩ (some []) (c6c xs)) (h0:X.dfs= []:=by rfl) (hg:fn.ntmps≤R0:=by exact Nat.le_of_ble_eq_true rfl):a7Z X.P f caps xs:=
 c2W hP caps xs yl hf hb hn hl hres (fun l=>by have h:=h l;rw [b9F]at h;exact h) h0 hg
end Go.Sx
namespace Go.Sx
open Go Go.RowKit
theorem vb {α:Type} {b:Bool} {p q:Prop} {x y r:Option α} (h:(if b=true then x else y)=r) (h1:b=true→x=r→p) (h2:b=false→y=r→q):VIf b p q:=VIf.b h1 h2 h
theorem cy {α β:Type} {P:Program} {f:FuncId} {args:List D} {st:Sy} {K:Sy→D→Prop} {o:Option α} {k:α→Option β} {r:β} {c:α→D} (h:Option.bind o k=some r) (hd:∀x,o=some x→l8 P f args fun y=>y=c x) (hk:∀x,k x=some r→K st (c x)):a5u P f args st K:=by
 obtain⟨x,hx,hm⟩:=b9 h
 exact a5u.det (hd x hx) (hk x hm)
theorem co {α β:Type} {P:Program} {seq:Bool} {f:FuncId} {fa:List D} {st st':Sy} {K:Sy→D→Prop} {o:Option α} {k:α→Option β} {r:β} {c:α→D} (h:Option.bind o k=some r) (hd:∀x,o=some x→l8 P f fa fun y=>y=c x) (hk:∀x,k x=some r→match a4S (c x),seq with
 |true,_=>K st (c x)
 |false,true=>K st' (c x)
 |false,false=>False):a8V P seq f fa st st' K:=by
 obtain⟨x,hx,hm⟩:=b9 h
 exact a8V.det (hd x hx) (hk x hm)
theorem _root_.Eq.rl {α:Type} {a r:α} {f:α→D} {x:D} (hm:some a=some r) (h:leD x (f a)):j2 x fun y=>y=f r:=by
 cases hm;exact c8a h
theorem _root_.Eq.rr {α:Type} {a r:α} {f:α→D} {x:D} (hm:some a=some r) (h:x=f a:=by rfl):j2 x fun y=>y=f r:=hm.rl (h▸c7Y _)
def lkL (T:List (Nat×D)):List (Nat×D)→Option (List D)
 | []=>some []
 |(d,_)::r=>match w8 T d,lkL T r with
  |some x,some l=>some (x::l)
  |_,_=>none
def bkL (n:Nat):List (Nat×D)→List D
 | []=> []
 |(_,s)::r=>back n s::bkL n r
theorem tA {n:Nat} {T:List (Nat×D)}:∀ {r:List (Nat×D)},lkL T r=some (bkL n r)→b1v n T r
 | [],_=>trivial
 |(d,s)::r,h=>by
  simp only [lkL,bkL]at h
  split at h
  · rename_i x l h1 h2
    simp only [Option.some.injEq,List.cons.injEq]at h
    obtain⟨rfl,rfl⟩:=h
    exact⟨tR h1,tA h2⟩
  · cases h
end Go.Sx
namespace Go.Sx
open Go Go.RowKit
theorem b5v {P:Program} {e esz:Nat} (w:World) (dT sT ty:TypeId) (g o dLen dCap:Nat) (a:Addr) (sLen sCap:Nat) (cur:Array Value) (t:TypeId) (cs:List Value)
 (hu:P.underlying dT=some (.slice e)) (hs:∀w:World,(sizeOf e).run P w= .ok esz w)
 (hg:w.heap[g]?=some (.cells cur t (0,0))) (hn:cs.length=Nat.min sLen dLen*esz)
 (hsrc:∀j v,cs[j]?=some v→w.cell? (a.add j)=some v) (hfit:o+cs.length≤cur.size) (h1:∀v∈cs,v.oneCell'=true):
 (Builtin.copy_ #[dT,sT] ty #[.slice (some ⟨g,o,none⟩) dLen dCap, .slice (some a) sLen sCap]).run P w=
  .ok (goInt (Nat.min sLen dLen)) (w.setRow g (cur.toList.take o++cs++cur.toList.drop (o+cs.length)).toArray):=by
 have hl:=run_loadCells_list (P:=P) w a cs hsrc
 have hst:=run_storeCells_at (P:=P) g o t cs 0 cur w hg (by simpa using hfit) h1
 rw [hn]at hl
 simp [Builtin.copy_,run_underlying hu,Builtin.lenOf,Builtin.firstCells,hs,hl,hst]
theorem a9P {P:Program} (w:World) (tS tR e:TypeId) (ht:P.underlying tS=some (.slice e)) (size:Nat) (hz:∀w,(Go.sizeOf e).run P w= .ok size w)
 (a b:Addr) (la ca lb cb:Nat) (hne:a.block≠b.block) {cA cB:Array Value} {tA tB:TypeId} {fA:Nat×Nat}
 (hsa:w.heap[a.block]?=some (.cells cA tA fA)) (hsb:w.heap[b.block]?=some (.cells cB tB (0,0))) (hkA:cA.size≠0) (hkB:cB.size≠0):
 (Extern.SlicesOverlaps.overlaps #[tS,tS] #[tR] #[.slice (some a) la ca, .slice (some b) lb cb]).run P w= .ok (.bool false) w:=by
 have hnb:(a.block !=b.block)=true:=by simpa using hne
 have hnb':(a.block==b.block)=false:=by simpa using hne
 have sa:w.shape? a.block=some (tA,cA.size):=by simp [World.shape?,hsa]
 have sb:w.shape? b.block=some (tB,cB.size):=by simp [World.shape?,hsb]
 have fb:w.frozen? b=false:=by simp [World.frozen?,hsb]
 have fe:w.frozen? { block:=b.block,off:=cB.size}=false:=by simp [World.frozen?,hsb]
 change Sem.run P (α:=Value) (do
  let some t:=(#[tS,tS]:Array TypeId)[0]?|stuck "slices.overlaps: no parameter types"
  let .slice elem←underlying t|stuck "slices.overlaps: slice type expected"
  let size←sizeOf elem
  match(some a:Option Addr),(some b:Option Addr)with
  |some a,some b=>
   if la=0∨lb=0∨size=0 then pure (Value.bool false)
   else if a.block !=b.block&&(←frozen a)&&(←frozen b)then unsupported .addressObserved
   else do
    if a.block !=b.block then do
     noView a;noView b
     if←mayBeOne a b then return Value.bool ((←choose (.extern "sameAddr.stringBytes" 2))==1)
    pure (Value.bool (a.block==b.block&&a.off<b.off+lb*size&&b.off<a.off+la*size))
  |_,_=>pure (Value.bool false)) w=_
 by_cases h0:la=0∨lb=0∨size=0
 · simp [run_underlying ht,hz,h0]
 · obtain⟨k,hk⟩:∃k,cB.size=k+1:=⟨cB.size-1,by omega⟩
   obtain⟨k',hk'⟩:∃k,cA.size=k+1:=⟨cA.size-1,by omega⟩
   rw [hk]at sb fe
   rw [hk']at sa
   cases hfa:w.frozen? a<;>cases hfe:w.frozen? { block:=a.block,off:=k'+1}<;>
    simp [run_underlying ht,hz,h0,hnb,hnb',frozen,noView,viewAt,mayBeOne,stringish,shape,Sem.run,sa,sb,fb,fe,hfa,hfe]
def puts (a:Act):List (Nat×Value)→Act
 | []=>a
 |(d,v)::L=>(puts a L).put (some d) v
def lk:List (Nat×Value)→Nat→Option Value
 | [],_=>none
 |(d,v)::L,e=>if Nat.beq d e then some v else lk L e
def lkA (a:Act) (L:List (Nat×Value)) (e:Nat):Option Value:=match lk L e with
 |some v=>some v
 |none=>a.tmps[e]?
def inB (n:Nat):List (Nat×Value)→Bool
 | []=>true
 |(d,_)::L=>Nat.blt d n&&inB n L
theorem a3X {a:Act}:∀(L:List (Nat×Value)),(puts a L).tmps.size=a.tmps.size
 | []=>rfl
 |(d,v)::L=>by rw [puts,a4A,a3X L]
theorem a5v {a:Act}:∀(L:List (Nat×Value)),(puts a L).defers=a.defers
 | []=>rfl
 |(d,v)::L=>by rw [puts,a9c,a5v L]
theorem X8 {a:Act}:∀(L:List (Nat×Value)) (e:Nat),inB a.tmps.size L=true→(puts a L).tmps[e]?=lkA a L e
 | [],e,_=>rfl
 |(d,v)::L,e,h=>by
  simp only [inB,Bool.and_eq_true]at h
  have hd:d<a.tmps.size:=by simpa [Nat.blt_eq]using h.1
  rw [puts]
  unfold lkA lk
  cases hb:Nat.beq d e with
  |true=>
   have:=Nat.eq_of_beq_eq_true hb
   subst this
   simp only [if_true]
   exact b1c (by rw [a3X];exact hd)
  |false=>
   have:d≠e:=Nat.ne_of_beq_eq_false hb
   rw [b6S this,X8 L e h.2]
   simp [lkA]
theorem K7 {a:Act} {L:List (Nat×Value)} {e N:Nat} {v:Value} (hs:a.tmps.size=N) (hb:inB N L=true) (h:lkA a L e=some v):(puts a L).eval (.tmp e)=v:=a8v (by rw [X8 L e (hs▸hb),h])
theorem J1 {P:Program} {ops:Array Oper} {Q:Exit→Act→World→Prop} {o:Oper} {rest:List Oper} {a:Act} {L:List (Nat×Value)} {w w':World} {v:Value} {d:Nat} (hg:o.guard=none) (hd:o.dst=some d) (h:(execOp (puts a L).eval o).run P w= .ok (.value v) w')
 (hn:wpList P ops Q rest (puts a ((d,v)::L)) w'):wpList P ops Q (o::rest) (puts a L) w:=by
 refine a4c hg h ?_
 rw [hd]
 exact hn
theorem a3H {P:Program} {ops:Array Oper} {Q:Act→Prop} {o:Oper} {rest:List Oper} {a:Act} {L:List (Nat×Value)} {w:World} {v:Value} {d:Nat} (hg:o.guard=none) (hd:o.dst=some d) (h:(execOp (puts a L).eval o).run P w= .ok (.value v) w)
 (hn:wpStill P ops w Q rest (puts a ((d,v)::L))):wpStill P ops w Q (o::rest) (puts a L):=by
 have hw:Region.wanted o (yielded ops (puts a L).tmps)=true:=by simp [Region.wanted,hg]
 simp only [wpStill,hw,if_true,Oper.still,h,Oper.stillUpon_value,hd]
 exact hn
section
variable {P : Program} {a : Act} {L : List (Nat × Value)} {o : Oper} {w : World} {x y N : Nat} {u v : Value}
theorem a0X (hs:a.tmps.size=N) (hb:inB N L=true) (ho:o.op= .move (.tmp x)) (hx:lkA a L x=some v):(execOp (puts a L).eval o).run P w= .ok (.value v) w:=by
 simp [execOp,ho,K7 hs hb hx]
theorem c2l (hs:a.tmps.size=N) (hb:inB N L=true) (ho:o.op= .assign (.tmp x)) (hx:lkA a L x=some v):(execOp (puts a L).eval o).run P w= .ok (.value v) w:=by
 simp [execOp,ho,K7 hs hb hx]
theorem b3h {t t':TypeId} {p q:Nat} (hs:a.tmps.size=N) (hb:inB N L=true) (ho:o.op= .binOp .add t (.tmp x) (.tmp y) t') (hx:lkA a L x=some (.int .i64 (p:Int))) (hy:lkA a L y=some (.int .i64 (q:Int))) (h:p+q≤9223372036854775807):
 (execOp (puts a L).eval o).run P w= .ok (.value (.int .i64 ((p+q:Nat):Int))) w:=by
 have e:IntKind.i64.wrap ((p:Int)+(q:Int))=((p+q:Nat):Int):=by rw [IntKind.wrap_i64];omega
 simp [execOp,ho,K7 hs hb hx,K7 hs hb hy,eqGuard,binOp,Op.intArith,e]
theorem c4Y {t t':TypeId} {p q:Nat} (hs:a.tmps.size=N) (hb:inB N L=true) (ho:o.op= .binOp .sub t (.tmp x) (.tmp y) t') (hx:lkA a L x=some (.int .i64 (p:Int))) (hy:lkA a L y=some (.int .i64 (q:Int))) (hq:q≤p) (h:p≤9223372036854775807):
 (execOp (puts a L).eval o).run P w= .ok (.value (.int .i64 ((p-q:Nat):Int))) w:=by
 have e:IntKind.i64.wrap ((p:Int)-(q:Int))=((p-q:Nat):Int):=by rw [IntKind.wrap_i64];omega
 simp [execOp,ho,K7 hs hb hx,K7 hs hb hy,eqGuard,binOp,Op.intArith,e]
theorem c5Q {t t':TypeId} {p q:Nat} (hs:a.tmps.size=N) (hb:inB N L=true) (ho:o.op= .binOp .gtr t (.tmp x) (.tmp y) t') (hx:lkA a L x=some (.int .i64 (p:Int))) (hy:lkA a L y=some (.int .i64 (q:Int))):
 (execOp (puts a L).eval o).run P w= .ok (.value (.bool (decide (q<p)))) w:=by
 simp [execOp,ho,K7 hs hb hx,K7 hs hb hy,eqGuard,binOp,Op.intCmp]
theorem c5w {t:TypeId} {c:Bool} (hs:a.tmps.size=N) (hb:inB N L=true) (ho:o.op= .unOp .not t (.tmp x)) (hx:lkA a L x=some (.bool c)):
 (execOp (puts a L).eval o).run P w= .ok (.value (.bool (!c))) w:=by
 simp [execOp,ho,K7 hs hb hx,Op.unary]
section
variable {t e esz bytes : Nat} {i : TI} {g n cap m : Nat}
theorem b7j (hi:U9 P t i) (hd:i.d= .slice e esz bytes) (hs:a.tmps.size=N) (hb:inB N L=true) (ho:o.op= .slice t (.tmp x) (some (.tmp y)) none none) (hx:lkA a L x=some (.slice (some ⟨g,0,none⟩) n cap)) (hy:lkA a L y=some (.int .i64 (m:Int))) (hm:m<n) (hnc:n≤cap):
 (execOp (puts a L).eval o).run P w= .ok (.value (.slice (some ⟨g,m*esz,none⟩) (n-m) (cap-m))) w:=by
 obtain⟨off,h1,h2⟩:=c0V (X:=⟨P, [],0, [], [], [], [], [], []⟩) (g:=g) hi hd (show m≤n by omega) hnc w
 obtain rfl:off=m*esz:=by omega
 simp only [execOp,ho,K7 hs hb hx,K7 hs hb hy,Option.map,Sem.run_bind,h1]
 try rfl
theorem c4P (hi:U9 P t i) (hd:i.d= .slice e esz bytes) (hs:a.tmps.size=N) (hb:inB N L=true) (ho:o.op= .slice t (.tmp x) none (some (.tmp y)) none) (hx:lkA a L x=some (.slice (some ⟨g,0,none⟩) n cap)) (hy:lkA a L y=some (.int .i64 (m:Int))) (hm:m≤cap):
 (execOp (puts a L).eval o).run P w= .ok (.value (.slice (some ⟨g,0,none⟩) m cap)) w:=by
 have h1:=c4w (X:=⟨P, [],0, [], [], [], [], [], []⟩) (g:=g) (n:=n) hi hd hm w
 simp only [execOp,ho,K7 hs hb hx,K7 hs hb hy,Option.map,Sem.run_bind,h1]
 rfl
theorem b3J {b:Builtin} {tys:Array TypeId} {xs:List Nat} {vals:List Value} {v:Value} {w':World} (ho:o.op= .call { callee:= .builtin b,args:=(xs.map Operand.tmp).toArray,argTypes:=tys}) (hs:a.tmps.size=N) (hb:inB N L=true)
 (hx:xs.map (fun x=>lkA a L x)=vals.map some) (h:∀cs,(builtin b tys o.type cs vals.toArray).run P w= .ok (.value v) w'):(execOp (puts a L).eval o).run P w= .ok (.value v) w':=by
 have he:(xs.map Operand.tmp).toArray.map (puts a L).eval=vals.toArray:=by
  apply Array.ext'
  simp only [List.map_toArray,List.map_map]
  clear ho h
  induction xs generalizing vals with
  |nil=>cases vals with
   |nil=>rfl
   |cons=>simp at hx
  |cons x xs ih=>cases vals with
   |nil=>simp at hx
   |cons u us=>
    simp only [List.map_cons,List.cons.injEq]at hx
    simp only [List.map_cons,Function.comp,K7 hs hb hx.1]
    rw [←ih hx.2]
 obtain⟨cs,hr⟩:=X5 (X:=cx (⟨P, [],0, [], [], [], [], [], []⟩:Cy) w []) (a:=puts a L) ho he w
 have hr':(execOp (puts a L).eval o).run P w=_:=hr
 rw [hr']
 exact h cs
theorem c7c {f:FuncId} {tys:Array TypeId} {x1 x2:Nat} {v1 v2 v:Value} {w':World} (ho:o.op= .call { callee:= .value (.func f),args:= #[.tmp x1, .tmp x2],argTypes:=tys}) (hs:a.tmps.size=N) (hb:inB N L=true)
 (h1:lkA a L x1=some v1) (h2:lkA a L x2=some v2) (h:(callFunc f #[v1,v2]).run P w= .ok (.value v) w'):(execOp (puts a L).eval o).run P w= .ok (.value v) w':=by
 simp only [execOp,ho,resolve,invoke,Sem.run_bind,Sem.run_pure,Result.andThen_ok,List.map_toArray,List.map_cons,List.map_nil,K7 hs hb h1,K7 hs hb h2]
 first|exact h|(simp [Act.eval,Operand.func,h];done)|simp [Act.eval,callValue,h]
end
end
theorem b8N {α:Type} (c ls C1:List α) (I M N:Nat) (hI:I≤N) (hl:ls.length=M) (hc:N+M≤c.length) (h1:C1=c.take (I+M)++(c.take N).drop I++c.drop (I+M+(N-I))):
 (C1.take I++ls++C1.drop (I+M)).take (N+M)=c.take I++ls++(c.take N).drop I:=by
 have a1:C1.take I=c.take I:=by
  rw [h1,List.append_assoc,List.take_append_of_le_length (by simp;omega),List.take_take,Nat.min_eq_left (by omega)]
 have a2:C1.drop (I+M)=(c.take N).drop I++c.drop (I+M+(N-I)):=by
  rw [h1,List.append_assoc,List.drop_left' (by simp;omega)]
 rw [a1,a2,←List.append_assoc]
 exact List.take_left' (by simp [hl];omega)
theorem c1q {α:Type} (c ls C1 C2:List α) (I M N:Nat) (hI:I≤N) (hl:ls.length=M) (hc:N≤c.length) (h0:C1.take I=c.take I) (hn:N+M≤C1.length) (h2:C2=C1.take I++ls++C1.drop (I+M)):
 (C2.take (I+M)++(c.take N).drop I++C2.drop (I+M+(N-I))).take (N+M)=c.take I++ls++(c.take N).drop I:=by
 have a1:C2.take (I+M)=c.take I++ls:=by
  rw [h2,h0]
  exact List.take_left' (by simp [hl];omega)
 rw [a1]
 exact List.take_left' (by simp [hl];omega)
theorem b9X {P:Program} {t e esz bytes tn:Nat} {i ie:TI} (hi:U9 P t i) (hd:i.d= .slice e esz bytes) (hie:U9 P e ie) (hiz:ie.n=esz) (h1:0<esz) (hn:P.underlying tn=some (.int .i64)) {w:World} {g cap j k:Nat} {cur:Array Value}
 (hg:w.heap[g]?=some (.cells cur e (0,0))) (hcs:cur.size=cap*esz) (hj:j≤cap) (hk:0<k) (hroom:cap<j+k) (hb:(j+k)*bytes≤140737488355328) (hm:j+k≤maxLen):
 ∃C1 c',(∀ty,(Builtin.append_ #[t,tn] ty #[.slice (some ⟨g,0,none⟩) j cap, .int .i64 (k:Int)]).run P w= .ok (.slice (some ⟨w.heap.size,0,none⟩) (j+k) c') (w.drew.alloc (.cells C1 e)))∧C1.size=c'*esz∧j+k≤c'∧c'≤maxLen∧C1.toList.take (j*esz)=cur.toList.take (j*esz):=by
 obtain⟨hu,inf,hinf,hsz,hby⟩:=hi.slice hd
 obtain⟨inf',z,hinf',hsz',hz,hzc⟩:=hie.info
 obtain rfl:inf=inf':=by rw [hinf]at hinf';exact Option.some.inj hinf'
 have hzs:z.cells.size=esz:=by rw [←Array.length_toList,hzc,hie.zn,hiz]
 have hjc:j*esz≤cur.size:=by rw [hcs];exact Nat.mul_le_mul_right _ hj
 have hm':j+k≤9223372036854775807:=by simpa [maxLen]using hm
 have hol:(cur.toList.take (j*esz)).length=j*esz:=by simp;omega
 have hold:=run_firstCells_some (P:=P) w.drew inf.size j ⟨g,0,none⟩ j cap (cur.toList.take (j*esz)) (by rw [hol,hsz]) (fun q v hq=>by
  have hlt:q<j*esz:=by have:=(List.getElem?_eq_some_iff.1 hq).1;omega
  rw [X9]
  rw [List.getElem?_take_of_lt hlt]at hq
  have hq':cur[q]?=some v:=by simpa using hq
  show(w.cell? ⟨g,0+q,none⟩)=some v
  simp [World.cell?,hg,hq'])
 have hkb:k*inf.bytes≤281474976710656:=by
  have:k*inf.bytes≤(j+k)*inf.bytes:=Nat.mul_le_mul_right _ (by omega)
  rw [hby]at this⊢
  omega
 refine⟨_,grownCap w (j+k) cap e,fun ty=>Lib.run_append_grow_zeros w t tn ty e inf z .i64 .i64 hu hn hinf hz (some ⟨g,0,none⟩) j cap _ hold k hk (by omega) hroom (by omega) hkb (by rw [hby];exact growslice_fits hroom hb), ?_,grownCap_ge _ _ _ _,grownCap_le_maxLen _ _ _ _ hm, ?_⟩
 · have:=grownCap_ge w (j+k) cap e
   simp only [Array.size_append,List.size_toArray,hol,Builtin.zeroCells,Array.size_map,Array.size_range,hzs]
   rw [←Nat.add_mul,←Nat.add_mul]
   congr 1
   omega
 · simp only [Array.toList_append,List.append_assoc]
   exact List.take_left' hol
end Go.Sx
namespace Go.Sx
open Go Go.RowKit
inductive c0t (t:TypeId):List (Int×Nat)→List Oper→Prop
 |nil {T1 T2:TypeId} {p1 p2:String} {f1 f2:Array Edge}:c0t t [] [{ dst:=some 2,op:= .move (.tmp 1),type:=T1,pos:=p1,after:=f1,guard:=none}, { dst:=some 0,op:= .assign (.tmp 2),type:=T2,pos:=p2,after:=f2,guard:=none}]
 |cons {k:Int} {f:Nat} {l:List (Int×Nat)} {ops:List Oper} {T:TypeId} {p:String} {fe:Array Edge}:c0t t l ops→c0t t ((k,f)::l) ({ dst:=none,op:= .insert t (.tmp 1) (.const (.int .i64 k)) (.func f),type:=T,pos:=p,after:=fe,guard:=none}::ops)
inductive c1a (t:TypeId) (l:List (Int×Nat)):Code→Prop
 |mk {T1 T2:TypeId} {p1 p2:String} {f1 f2:Array Edge} {r0 r1:Nat} {rest:List Oper}:c0t t l rest→c1a t l (Code.seq (.region r0 #[{ dst:=some 0,op:= .assign (.const (.map none)),type:=T1,pos:=p1,after:=f1,guard:=none}] false)
  (.seq (.region r1 (List.toArray ({ dst:=some 1,op:= .makeMap t none,type:=T2,pos:=p2,after:=f2,guard:=none}::rest)) false) .ret))
theorem b9Z {P:Program} {ops:Array Oper} {Q:Exit→Act→World→Prop} {o:Oper} {rest:List Oper} {a:Act} {w w':World} (hg:o.guard=none) (hd:o.dst=none) (h:(execOp a.eval o).run P w= .ok .skip w') (hn:wpList P ops Q rest a w'):wpList P ops Q (o::rest) a w:=by
 have hw:Region.wanted o (yielded ops a.tmps)=true:=by simp [Region.wanted,hg]
 simp only [wpList,hw,if_true]
 left
 unfold Oper.wp
 rw [h]
 show wpList P ops Q rest (a.put o.dst undef) w'
 rw [hd]
 exact hn
theorem a9h {i:Int}:∀(l:List (Int×Nat)) (es:List MapEntry) (k:Nat),es.map (fun e=>(e.key,e.val))=l.map (fun p=>(Value.int .i64 p.1,Value.func (.func p.2) #[] #[]))→i∉l.map (·.1)→Instr.findNow (.int .i64) (.int .i64 i) es k=some none
 | [], [],_,_,_=>rfl
 | [],_::_,_,he,_=>by simp at he
 |(a,g)::l, [],_,he,_=>by simp at he
 |(a,g)::l,e::es,k,he,h=>by
  simp only [List.map_cons,List.cons.injEq,Prod.mk.injEq]at he
  obtain⟨⟨h1,h2⟩,h3⟩:=he
  simp only [List.map_cons,List.mem_cons,not_or]at h
  have hs:Instr.sameNow (.int .i64) (.int .i64 i) e.key=some (i==a):=by rw [h1];simp [Instr.sameNow]
  have hb:(i==a)=false:=by simpa using h.1
  simp only [Instr.findNow,hs,hb]
  exact a9h l es (k+1) h3 h.2
theorem b7q {P:Program} {w:World} {t kt et:TypeId} {r c:Nat} {i:Int} {es:Array MapEntry} {v:Value} (hu:P.underlying t=some (.map kt et)) (hk:P.underlying kt=some (.int .i64))
 (hb:w.heap[r]?=some (.map es c)) (hf:Instr.findNow (.int .i64) (.int .i64 i) es.toList 0=some none):(Instr.mapUpdate t (.map (some r)) (.int .i64 i) v).run P w= .ok () { w with heap:=w.heap.setIfInBounds r (.map (es.push { key:= .int .i64 i,val:=v,born:=c}) (c+1))}:=by
 have h1:=MapKept.run_getObj_map (P:=P) hb
 have h2:=MapKept.run_checkKey (w:=w) (k:= .int .i64 i) hk (by simp [MapKept.IsKey]) false 9999
 have h3:=MapKept.run_findKey (w:=w) hk hf
 simp [Instr.mapUpdate,run_underlying hu,h1,h2,h3,MapKept.run_setObj_map _ hb,Result.andThen]
structure c3B (w W:World) (l:List (Int×Nat)):Prop where
 ex:∃es c,W.heap[w.heap.size]?=some (.map es c)∧es.toList.map (fun e=>(e.key,e.val))=l.map (fun p=>(Value.int .i64 p.1,Value.func (.func p.2) #[] #[]))
 os:W.os=w.os
 tape:W.tape=w.tape
 output:W.output=w.output
 size:W.heap.size=w.heap.size+1
 block:∀i,i<w.heap.size→W.heap[i]?=w.heap[i]?
theorem b7H {P:Program} {ops:Array Oper} {w:World} {t kt et:TypeId} (hu:P.underlying t=some (.map kt et)) (hk:P.underlying kt=some (.int .i64)) {Q:Exit→Act→World→Prop}:
 ∀(rest:List Oper) (l pre:List (Int×Nat)) (a:Act) (W:World),c0t t l rest→((pre++l).map (·.1)).Nodup→c3B w W pre→3≤a.tmps.size→a.tmps[1]?=some (.map (some w.heap.size))→
  (∀a' W',c3B w W' (pre++l)→a'.defers=a.defers→a'.tmps.size=a.tmps.size→a'.tmps[0]?=some (.map (some w.heap.size))→Q .normal a' W')→wpList P ops Q rest a W:=by
 intro rest l
 induction l generalizing rest with
 |nil=>
  intro pre a W hi hnd hm hs h1 hQ
  cases hi
  refine a4c (v:= .map (some w.heap.size)) (w':=W) rfl (by simp [execOp,a8v h1]) ?_
  have h2:(a.put (some 2) (.map (some w.heap.size))).tmps[2]?=some (.map (some w.heap.size)):=b1c (by omega)
  refine a4c (v:= .map (some w.heap.size)) (w':=W) rfl (by simp [execOp,a8v h2]) ?_
  exact hQ _ W (by simpa using hm) (by rw [a9c,a9c]) (by rw [a4A,a4A]) (b1c (by rw [a4A];omega))
 |cons x l ih=>
  intro pre a W hi hnd hm hs h1 hQ
  cases hi with
  |cons hi=>
   rename_i k f ops' T p fe
   obtain⟨es,c,hb,he⟩:=hm.ex
   have hnk:k∉pre.map (·.1):=by
    simp only [List.map_append,List.map_cons]at hnd
    intro hc
    exact(List.nodup_append.1 hnd).2.2 _ hc _ List.mem_cons_self rfl
   have hr:=b7q (v:= .func (.func f) #[] #[]) hu hk hb (a9h pre es.toList 0 he hnk)
   have e1:=a8v h1
   have e2:a.eval (.const (.int .i64 k))= .int .i64 k:=rfl
   have e3:a.eval (.func f)= .func (.func f) #[] #[]:=rfl
   refine b9Z rfl rfl (by simp only [execOp,e1,e2,e3,Sem.run_bind,hr];rfl) ?_
   have hlt:w.heap.size<W.heap.size:=by rw [hm.size];omega
   refine ih ops' (pre++ [(k,f)]) a _ hi (by simpa using hnd) ⟨⟨_,_,(by show(W.heap.setIfInBounds w.heap.size _)[w.heap.size]?=_;rw [Array.getElem?_setIfInBounds_self_of_lt hlt]),by simp [he]⟩,hm.os,hm.tape,hm.output,(by show(W.heap.setIfInBounds w.heap.size _).size=_;rw [Array.size_setIfInBounds];exact hm.size),fun i hi=> ?_⟩ hs h1 fun a' W' hm'=>hQ a' W' (by simpa using hm')
   have hne:w.heap.size≠i:=by omega
   show(W.heap.setIfInBounds w.heap.size _)[i]?=_
   rw [Array.getElem?_setIfInBounds_ne hne,hm.block i hi]
theorem c1u {P:Program} {f:FuncId} {fn:Func} {c:Code} {t kt et:TypeId} {l:List (Int×Nat)} (hf:P.funcs[f]?=some fn) (hb:fn.body=some c) (hm:c1a t l c) (hnd:(l.map (·.1)).Nodup) (h3:fn.ntmps=3) (hres:fn.results= #[.tmp 0])
 (hu:P.underlying t=some (.map kt et)) (hk:P.underlying kt=some (.int .i64)):l8 P f [] fun x=>x= .mp l:=by
 intro ok w vl hrep hok
 obtain rfl:vl= []:=List.eq_nil_of_length_eq_zero (by rw [←hrep.length];rfl)
 refine calls_of_wp hf hb ?_
 cases hm with
 |mk hi=>
  generalize ha0:({ tmps:=(([]:List Value).toArray++Array.replicate (fn.ntmps-([]:List Value).toArray.size) undef),defers:= []}:Act)=a0
  have hs0:a0.tmps.size=3:=by rw [←ha0];simp [h3]
  have hd0:a0.defers= []:=by rw [←ha0]
  refine wp_seq (wp_region_list ?_)
  refine a4c (v:= .map none) (w':=w) rfl (by simp [execOp,Act.eval]) ?_
  show Code.wp _ _ _ _ _
  refine wp_seq (wp_region_list ?_)
  have hmk:(Instr.makeMap t none).run P w= .ok (.map (some w.heap.size)) (w.alloc (.map #[] 0)):=by simp [Instr.makeMap,Result.andThen]
  refine a4c (v:= .map (some w.heap.size)) (w':=w.alloc (.map #[] 0)) rfl (by simp only [execOp,Option.map,Sem.run_bind,hmk];rfl) ?_
  have hal:=MapKept.heap_alloc w (.map #[] 0)
  refine b7H hu hk _ l [] _ _ hi (by simpa using hnd) ⟨⟨#[],0,hal.1,rfl⟩,rfl,rfl,rfl,(by show(w.heap.push _).size=_;rw [Array.size_push]),hal.2⟩ (by rw [a4A,a4A];omega) (b1c (by rw [a4A];omega)) fun a' W' hM hdf hsz h0=> ?_
  show Code.wp _ _ _ _ _
  refine wp_ret ?_
  show bodyPost _ _ _ .ret _ _
  obtain⟨es,c,h1,h2⟩:=hM.ex
  refine⟨by rw [hdf,a9c,a9c];exact hd0, .map (some w.heap.size), ?_,_,_,rfl,rfl, ?_, ?_⟩
  · rw [show results fn a'.tmps=_ from by unfold results;rw [hres]]
    simp [h0]
  · simp only [Rep]
    exact⟨_,es,c,rfl, .inr ⟨Nat.le_refl _,by rw [hM.size];omega⟩,h1,by simpa using h2⟩
  · exact(Fx.below (a:=w) ⟨hM.os,hM.tape,hM.output,by rw [hM.size];omega,fun i hi _=>hM.block i hi⟩)
end Go.Sx
