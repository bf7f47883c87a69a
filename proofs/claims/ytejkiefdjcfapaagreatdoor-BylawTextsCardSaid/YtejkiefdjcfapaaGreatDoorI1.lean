/- Walks through functions that are not lifted by the program. -/
import Derived.Test.YtejkiefdjcfapaaGreatDoorL1
import Derived.WalkKit
import Derived.Lib.Walk
import Derived.Lib.Hide
import Derived.Deep.RegionHeld
import Derived.WalkSpells
import Derived.StillTactics
import Derived.Laws.IdiomStrings
import Derived.LoopTactic
import Derived.Deep.OwnRows
import Derived.Lib.AtoiAllCases
import Derived.Deep.RegionHeld3
import Derived.Defers
import Derived.Recover
import Derived.Deep.AppendLies
import Derived.Deep.RegionHeldLaw
import Derived.Deep.DrawnRows
import Derived.Lib.OthersKept
import Derived.Laws.Externs
import Derived.Lib.ItoaLen
set_option linter.unusedVariables false
set_option linter.unusedSimpArgs false
namespace Go.Proofs.YtejkiefdjcfapaaGreatDoor
open Go Go.Sx
theorem W_id {z:Int} (h: -9223372036854775808≤z∧z≤9223372036854775807):W z=z:=wrap_id h
theorem W_s {k:Nat} (h:k<9223372036854775807):W ((k:Int)+1)=((k+1:Nat):Int):=wrap_s h
def runL {α σ R:Type} (f:σ→α→Sum σ R):List α→σ→Sum σ R
 | [],s=> .inl s
 |x::l,s=>match f s x with| .inl s'=>runL f l s'| .inr r=> .inr r
theorem runL_foldl {α σ R:Type} (f:σ→α→σ) (l:List α) (s:σ):runL (R:=R) (fun s x=> .inl (f s x)) l s= .inl (l.foldl f s):=by
 induction l generalizing s with
 |nil=>rfl
 |cons x l ih=>exact ih (f s x)
theorem loop_list {α σ S E R:Type} {body:S→Option (Sum S E)} (l:List α) (hl:l.length≤9223372036854775807) (enc:Nat→σ→S) (f:σ→α→Sum σ R) (out:R→E) (fin:σ→E) (P:List α→σ→Prop)
 (h:∀pre x post s,l=pre++x::post→P pre s→body (enc pre.length s)=some (match f s x with| .inl s'=> .inl (enc (pre.length+1) s')| .inr r=> .inr (out r))∧∀s',f s x= .inl s'→P (pre++ [x]) s')
 (he:∀s,P l s→body (enc l.length s)=some (.inr (fin s))) (s0:σ) (h0:P [] s0):
 loopF body (enc 0 s0)=some (match runL f l s0 with| .inl s=>fin s| .inr r=>out r):=by
 have key:∀(post pre:List α) (s:σ) (n:Nat),l=pre++post→P pre s→post.length<n→loopO body n (enc pre.length s)=some (match runL f post s with| .inl s=>fin s| .inr r=>out r):=by
  intro post
  induction post with
  |nil=>
   intro pre s n hp hs hn;cases n with
   |zero=>omega
   |succ n=>
    simp only [List.append_nil]at hp;subst hp;simp only [loopO,he s hs,runL]
  |cons x post ih=>
   intro pre s n hp hs hn;cases n with
   |zero=>omega
   |succ n=>
    obtain⟨h1,h2⟩:=h pre x post s hp hs;simp only [loopO,h1,runL];cases hf:f s x with
    |inl s'=>
     have:=ih (pre++ [x]) s' n (by simp [hp]) (h2 s' hf) (by simp at hn;omega);simpa using this
    |inr r=>rfl
 exact key l [] s0 FUEL rfl h0 (by unfold FUEL;omega)
theorem idx_pre {α:Type} {pre post:List α} {x:α}:idx (pre++x::post) (pre.length:Int)=some x:=by
 unfold idx;simp
theorem lt_pre {α:Type} {pre post:List α} {x:α}:((pre.length:Int)<((pre++x::post).length:Int)):=by simp;omega
end Go.Proofs.YtejkiefdjcfapaaGreatDoor
namespace Go.Proofs.YtejkiefdjcfapaaGreatDoor
open Go Go.Lib
def cst (c:UInt8) (l:List UInt8):Nat→List (List UInt8)×Nat
 |0=>([],0)
 |k+1=>if l[k]?=some c then((cst c l k).1++ [(l.take k).drop (cst c l k).2],k+1)else cst c l k
theorem cst_inv (c:UInt8) (l:List UInt8):∀k,k≤l.length→spl c l=(cst c l k).1++spl c (l.drop (cst c l k).2)∧(cst c l k).2≤k∧∀j,(cst c l k).2≤j→j<k→l[j]?≠some c
 |0,_=>⟨rfl,Nat.le_refl _,fun j _ h=>absurd h (Nat.not_lt_zero _)⟩
 |k+1,hk=>by
  obtain⟨h1,h2,h3⟩:=cst_inv c l k (by omega);by_cases hc:l[k]?=some c
  · simp only [cst,if_pos hc];refine⟨?_,Nat.le_refl _,fun j h h'=>by omega⟩;rw [h1,List.append_assoc];congr 1;have hlt:k<l.length:=by omega
    have hck:l[k]=c:=by rw [List.getElem?_eq_getElem hlt]at hc;exact Option.some.inj hc
    have e:l.drop (cst c l k).2=(l.take k).drop (cst c l k).2++c::l.drop (k+1):=by
     generalize (cst c l k).2=a at h2
     have e1:l=l.take k++c::l.drop (k+1):=by
      conv=>lhs;rw [←List.take_append_drop k l,List.drop_eq_getElem_cons hlt,hck]
     conv=>lhs;rw [e1]
     rw [List.drop_append_of_le_length (by rw [List.length_take];omega)]
    rw [e,spl_app c _ _ ?_]
    · rfl
    · intro x hx he;obtain⟨i,hi,hxi⟩:=List.getElem_of_mem hx;rw [List.length_drop,List.length_take]at hi;rw [List.getElem_drop,List.getElem_take]at hxi;refine h3 ((cst c l k).2+i) (by omega) (by omega) ?_;rw [List.getElem?_eq_getElem (by omega),hxi,he]
  · simp only [cst,if_neg hc];refine⟨h1,by omega,fun j h h'=> ?_⟩;by_cases e:j=k
    · rw [e];exact hc
    · exact h3 j h (by omega)
theorem cst_end (c:UInt8) (l:List UInt8):spl c l=(cst c l l.length).1++ [l.drop (cst c l l.length).2]∧(cst c l l.length).2≤l.length:=by
 obtain⟨h1,h2,h3⟩:=cst_inv c l l.length (Nat.le_refl _);refine⟨?_,h2⟩;rw [spl_none c (l.drop _) ?_]at h1
 · exact h1
 · intro x hx he;obtain⟨i,hi,hxi⟩:=List.getElem_of_mem hx;rw [List.length_drop]at hi;rw [List.getElem_drop]at hxi;refine h3 ((cst c l l.length).2+i) (by omega) (by omega) ?_;rw [List.getElem?_eq_getElem (by omega),hxi,he]
def wordsL (l:List UInt8):List (List UInt8):=(spl 32 l).filter fun d=>d≠ []
def linesL (l:List UInt8):List (List UInt8):=(cst 10 l l.length).1++if(cst 10 l l.length).2<l.length then [l.drop (cst 10 l l.length).2]else []
theorem lines_or (l:List UInt8):spl 10 l=linesL l∨spl 10 l=linesL l++ [[]]:=by
 obtain⟨h,h2⟩:=cst_end 10 l;unfold linesL;by_cases hl:(cst 10 l l.length).2<l.length
 · left;rw [if_pos hl];exact h
 · right;rw [if_neg hl,List.append_nil,h,show l.drop (cst 10 l l.length).2= [] from List.drop_eq_nil_of_le (by omega)]
end Go.Proofs.YtejkiefdjcfapaaGreatDoor
namespace Go.Proofs.YtejkiefdjcfapaaGreatDoor
open Go Go.Sx
def preD (u:Nat):List UInt8:=if u<10 then []else Lib.decDigits (u / 10)
theorem dec_pre (u:Nat):Lib.decDigits u=preD u++ [UInt8.ofNat (48+u % 10)]:=by
 unfold preD;rw [Lib.decDigits];by_cases h:u<10
 · simp [h,Nat.mod_eq_of_lt h]
 · simp [h]
def DV (l:List UInt8):Nat:=l.foldl (fun a c=>10*a+(c.toNat-48)) 0
theorem DV_snoc (l:List UInt8) (c:UInt8):DV (l++ [c])=10*DV l+(c.toNat-48):=by simp [DV]
def Dig (c:UInt8):Prop:=48≤c.toNat∧c.toNat≤57
theorem dig_of {k:Nat} (h:k<10):(UInt8.ofNat (48+k)).toNat=48+k:=by simp;omega
theorem dec_dig (u:Nat):(∀c∈Lib.decDigits u,Dig c)∧DV (Lib.decDigits u)=u∧Lib.decDigits u≠ []:=by
 induction u using Nat.strongRecOn with
 |_ u ih=>
  rw [dec_pre];have h10:u % 10<10:=Nat.mod_lt _ (by omega);have hl:=dig_of h10;unfold preD;by_cases h:u<10
  · rw [if_pos h];refine⟨fun c hc=> ?_, ?_,by simp⟩
    · simp only [List.nil_append,List.mem_singleton]at hc;subst hc;unfold Dig;omega
    · rw [DV_snoc,hl];simp [DV];omega
  · rw [if_neg h];obtain⟨i1,i2,_⟩:=ih (u / 10) (by omega);refine⟨fun c hc=> ?_, ?_,by simp⟩
    · rcases List.mem_append.1 hc with hc|hc
      · exact i1 c hc
      · simp only [List.mem_singleton]at hc;subst hc;unfold Dig;omega
    · rw [DV_snoc,hl,i2];omega
theorem dec_len {u k:Nat} (h:u<10^k) (hk:0<k):(Lib.decDigits u).length≤k:=by
 induction k generalizing u with
 |zero=>omega
 |succ k ih=>
  rw [dec_pre];unfold preD;by_cases h9:u<10
  · rw [if_pos h9];simp
  · rw [if_neg h9]
    have hk0:0<k:=by
     cases k with
     |zero=>simp at h;omega
     |succ k=>omega
    have:=ih (u:=u / 10) (by rw [Nat.pow_succ]at h;exact Nat.div_lt_of_lt_mul (by omega)) hk0;simp;omega
theorem parse_snoc:∀(l:List UInt8) (acc:Nat) (c:UInt8),Lib.parseUint10 acc (l++ [c])=match Lib.parseUint10 acc l with| .ok a=>Lib.parseUint10 a [c]|e=>e
 | [],acc,c=>rfl
 |x::l,acc,c=>by
  simp only [List.cons_append,Lib.parseUint10];split
  · split
    · rfl
    · split
      · rfl
      · exact parse_snoc l _ c
  · rfl
theorem parse_dec (u:Nat) (hu:u<1000000000000000000):Lib.parseUint10 0 (Lib.decDigits u)= .ok u:=by
 induction u using Nat.strongRecOn with
 |_ u ih=>
  have h10:u % 10<10:=Nat.mod_lt _ (by omega);have hl:=dig_of h10;rw [dec_pre,parse_snoc]
  have hp:Lib.parseUint10 0 (preD u)= .ok (u / 10):=by
   unfold preD;by_cases h:u<10
   · rw [if_pos h,Nat.div_eq_of_lt h];rfl
   · rw [if_neg h];exact ih _ (by omega) (by omega)
  rw [hp];simp only [Lib.parseUint10,hl];rw [if_pos (by omega),if_neg (by omega),if_neg (by omega)];congr 1;omega
theorem atoi_dec (u:Nat) (hu:u<1000000000000000000):Lib.atoiAll (Lib.decDigits u)= .ok (u:Int):=by
 obtain⟨d1,_,d3⟩:=dec_dig u;have hp:=parse_dec u hu;cases hd:Lib.decDigits u with
 |nil=>exact absurd hd d3
 |cons c r=>
  have hc:Dig c:=d1 c (by rw [hd];exact List.mem_cons_self);unfold Dig at hc;unfold Lib.atoiAll Lib.parseMag;rw [hd]at hp;simp only;rw [if_neg (show¬(c.toNat=43∨c.toNat=45) by omega),if_neg (by simp),hp];simp only;rw [if_neg (by omega),if_neg (by omega),if_neg (by omega)]
theorem dec_head {u:Nat} {c:UInt8} {r:List UInt8} (h:Lib.decDigits u=c::r):c=48→r= []:=by
 intro hc
 induction u using Nat.strongRecOn generalizing c r with
 |_ u ih=>
  rw [dec_pre]at h;unfold preD at h;by_cases h9:u<10
  · rw [if_pos h9]at h;simp at h;exact h.2
  · rw [if_neg h9]at h;cases hd:Lib.decDigits (u / 10)with
    |nil=>exact absurd hd (dec_dig _).2.2
    |cons a b=>
     rw [hd]at h;simp only [List.cons_append,List.cons.injEq]at h;have hb:=ih (u / 10) (by omega) hd (h.1.trans hc);have h2:=(dec_dig (u / 10)).2.1;rw [hd,hb,h.1,hc]at h2;simp [DV]at h2;omega
theorem canon (w:List UInt8) (hd:∀c∈w,Dig c) (hn:w≠ []) (hz:∀c r,w=c::r→c=48→r= []):Lib.decDigits (DV w)=w:=by
 obtain⟨n,hlen⟩:∃n,w.length=n:=⟨_,rfl⟩
 induction n generalizing w with
 |zero=>exact absurd (List.length_eq_zero_iff.1 hlen) hn
 |succ n ih=>
  obtain⟨v,c,rfl⟩:∃v c,w=v++ [c]:=⟨w.dropLast,w.getLast hn,(List.dropLast_concat_getLast hn).symm⟩;have hc:=hd c (by simp);have hc':=hc;unfold Dig at hc;have he:UInt8.ofNat (48+(c.toNat-48))=c:=by rw [show 48+(c.toNat-48)=c.toNat by omega];exact UInt8.ofNat_toNat
  rw [DV_snoc,dec_pre];by_cases hv:v= []
  · subst hv;have h0:DV []=0:=rfl;have hm:(c.toNat-48) % 10=c.toNat-48:=Nat.mod_eq_of_lt (by omega);rw [h0,Nat.mul_zero,Nat.zero_add,hm,he];unfold preD;rw [if_pos (by omega)]
  · have hv1:=ih v (fun x hx=>hd x (by simp [hx])) hv (fun a r e ha=>by
     have:=hz a (r++ [c]) (by rw [e];rfl) ha;simp at this) (by simp at hlen;exact hlen)
    have hp:1≤DV v:=by
     rcases Nat.eq_zero_or_pos (DV v)with h0|h0
     · rw [h0]at hv1;have e0:Lib.decDigits 0= [48]:=by rw [Lib.decDigits];rfl
       rw [e0]at hv1;have:=hz 48 [c] (by rw [←hv1];rfl) rfl;simp at this
     · exact h0
    have hm:(10*DV v+(c.toNat-48)) % 10=c.toNat-48:=by omega
    unfold preD;rw [if_neg (by omega),show(10*DV v+(c.toNat-48)) / 10=DV v by omega,hv1,hm,he]
def numW (w:List UInt8):Option Int:=match Lib.atoiAll w with
 | .ok v=>if 0≤v∧w.length≤6∧Lib.itoa v=w then some v else none
 |_=>none
def NumS (w:List UInt8):Prop:=w≠ []∧w.length≤6∧(∀c r,w=c::r→c=48→r= [])∧∀c∈w,Dig c
theorem DV_lt:∀(n:Nat) (w:List UInt8),w.length=n→(∀c∈w,Dig c)→DV w<10^n
 |0,w,h,_=>by rw [List.length_eq_zero_iff.1 h];decide
 |n+1,w,h,hd=>by
  have hn:w≠ []:=fun e=>by rw [e]at h;simp at h
  obtain⟨v,c,rfl⟩:∃v c,w=v++ [c]:=⟨w.dropLast,w.getLast hn,(List.dropLast_concat_getLast hn).symm⟩;have ih:=DV_lt n v (by simp at h;exact h) (fun x hx=>hd x (by simp [hx]));have hc:=hd c (by simp);unfold Dig at hc;rw [DV_snoc,Nat.pow_succ];omega
theorem numW_yes {w:List UInt8} (h:NumS w):numW w=some (DV w:Int):=by
 obtain⟨h1,h2,h3,h4⟩:=h;have hc:=canon w h4 h1 h3;have hlt:DV w<1000000:=Nat.lt_of_lt_of_le (DV_lt _ w rfl h4) (Nat.pow_le_pow_right (by decide) h2);have ha:=atoi_dec (DV w) (by omega);rw [hc]at ha;have hi:Lib.itoa (DV w:Int)=w:=by unfold Lib.itoa;rw [if_neg (by omega)];exact hc
 unfold numW;rw [ha];simp only;rw [if_pos ⟨by omega,h2,hi⟩]
theorem numW_no {w:List UInt8} (h:¬NumS w):numW w=none:=by
 unfold numW;split
 · rename_i v hv;rw [if_neg];rintro⟨h0,h6,hi⟩;have hi':Lib.decDigits v.toNat=w:=by unfold Lib.itoa at hi;rw [if_neg (by omega)]at hi;exact hi
   obtain⟨d1,_,d3⟩:=dec_dig v.toNat;rw [hi']at d1 d3;exact h ⟨d3,h6,fun c r e=>dec_head (hi'.trans e),d1⟩
 · rfl
theorem NumS_dec {u:Nat} (h:u<1000000):NumS (Lib.decDigits u):=by
 obtain⟨d1,_,d3⟩:=dec_dig u;exact⟨d3,dec_len (k:=6) h (by decide),fun c r e=>dec_head e,d1⟩
theorem numW_dec {u:Nat} (h:u<1000000):numW (Lib.decDigits u)=some (u:Int):=by rw [numW_yes (NumS_dec h),(dec_dig u).2.1]
end Go.Proofs.YtejkiefdjcfapaaGreatDoor
namespace Go.Proofs.YtejkiefdjcfapaaGreatDoor
open Go Go.Lib
theorem spl_sep (c:UInt8):∀(ds:List (List UInt8)) (a:List UInt8),(∀x∈a,x≠c)→(∀d∈ds,∀x∈d,x≠c)→spl c (a++ds.flatMap fun d=>c::d)=a::ds
 | [],a,ha,_=>by rw [List.flatMap_nil,List.append_nil,spl_none c a ha]
 |d::ds,a,ha,h=>by
  rw [List.flatMap_cons,List.cons_append,spl_app c _ a ha,spl_sep c ds d (h d List.mem_cons_self) fun e he=>h e (List.mem_cons_of_mem _ he)]
def rowL (word:List UInt8) (ns:List Int):List UInt8:=word++ns.flatMap fun n=>32::Lib.itoa n
theorem itoa_pos {n:Int} (h:0≤n):Lib.itoa n=Lib.decDigits n.toNat:=by unfold Lib.itoa;rw [if_neg (by omega)]
theorem rowL_words (word:List UInt8) (ns:List Int) (hw:∀x∈word,x≠32) (hn:word≠ []) (h:∀n∈ns,0≤n):wordsL (rowL word ns)=word::ns.map Lib.itoa:=by
 unfold wordsL rowL;have e:(ns.flatMap fun n=>32::Lib.itoa n)=(ns.map Lib.itoa).flatMap fun d=>32::d:=by rw [List.flatMap_map]
 have hd:∀d∈ns.map Lib.itoa,(∀c∈d,Dig c)∧d≠ []:=fun d hd=>by
  obtain⟨n,hn,rfl⟩:=List.mem_map.1 hd;rw [itoa_pos (h n hn)];exact⟨(dec_dig _).1,(dec_dig _).2.2⟩
 rw [e,spl_sep 32 _ word hw fun d hd' x hx e=>by have:=(hd d hd').1 x hx;subst e;unfold Dig at this;simp at this];rw [List.filter_cons_of_pos (by simpa using hn),List.filter_eq_self.2 fun d hd'=>by simpa using (hd d hd').2]
theorem rowL_ten (word:List UInt8) (ns:List Int) (hw:∀x∈word,x≠10) (h:∀n∈ns,0≤n):∀x∈rowL word ns,x≠10:=by
 intro x hx;unfold rowL at hx;rcases List.mem_append.1 hx with hx|hx
 · exact hw x hx
 · obtain⟨n,hn,hx⟩:=List.mem_flatMap.1 hx;rcases List.mem_cons.1 hx with rfl|hx
   · decide
   · rw [itoa_pos (h n hn)]at hx;have:=(dec_dig _).1 x hx;unfold Dig at this;rintro rfl;simp at this
theorem rowL_len (word:List UInt8):∀(ns:List Int) (k:Nat),(∀n∈ns,(Lib.itoa n).length≤k)→(rowL word ns).length≤word.length+ns.length*(k+1)
 | [],k,_=>by simp [rowL]
 |n::ns,k,h=>by
  have ih:=rowL_len word ns k fun m hm=>h m (List.mem_cons_of_mem _ hm)
  have h1:=h n List.mem_cons_self;unfold rowL at ih⊢;rw [List.length_append]at ih⊢;rw [List.flatMap_cons,List.length_append,List.length_cons,List.length_cons,Nat.add_mul];omega
def verN (v:TVersion):List Int:= [v.Source,v.Class,v.From,v.On.Lo,v.On.Hi,v.Off.Lo,v.Off.Hi,v.Moon,v.Fog,v.Known,v.Until]
def strN (s:TStreet):List Int:= [s.Id,s.Class,s.District,s.First,s.Many]
def verOf (l:List Int):TVersion:=⟨l.getD 0 0,l.getD 1 0,l.getD 2 0,⟨l.getD 3 0,l.getD 4 0⟩,⟨l.getD 5 0,l.getD 6 0⟩,l.getD 7 0,l.getD 8 0,l.getD 9 0,l.getD 10 0⟩
def strOf (l:List Int):TStreet:=⟨l.getD 0 0,l.getD 1 0,l.getD 2 0,l.getD 3 0,l.getD 4 0⟩
def wV:List UInt8:= [118,101,114,115,105,111,110]
def wS:List UInt8:= [115,116,114,101,101,116]
def rowsB (b:TBylaw):List (List UInt8):=b.Versions.map (fun v=>rowL wV (verN v))++b.Streets.map (fun s=>rowL wS (strN s))
def printL (b:TBylaw):List UInt8:=(rowsB b).flatMap fun d=>d++ [10]
def numsW (many:Nat) (l:List (List UInt8)):Option (List Int):=if l.length=many then l.mapM numW else none
def stepP (b:TBylaw) (line:List UInt8):Option TBylaw:=
 if line.head?=some 35 then some b else match wordsL line with
 | []=>some b
 |h::t=>if h=wV then(numsW 11 t).map fun n=>⟨b.Versions++ [verOf n],b.Streets⟩else if h=wS then(numsW 5 t).map fun n=>⟨b.Versions,b.Streets++ [strOf n]⟩else none
def readL:Nat→List (List UInt8)→TBylaw→Sum TBylaw Int
 |_, [],b=> .inl b
 |i,x::r,b=>match stepP b x with
  |some b'=>readL (i+1) r b'
  |none=> .inr ((i+1:Nat):Int)
theorem readL_app:∀(l r:List (List UInt8)) (i:Nat) (b:TBylaw),readL i (l++r) b=(match readL i l b with
 | .inl b'=>readL (i+l.length) r b'
 | .inr e=> .inr e)
 | [],r,i,b=>rfl
 |x::l,r,i,b=>by
  simp only [List.cons_append,readL];cases stepP b x with
  |none=>rfl
  |some b'=>simp only [readL_app l r (i+1) b',List.length_cons];rw [show i+1+l.length=i+(l.length+1) by omega]
theorem stepP_nil (b:TBylaw):stepP b []=some b:=rfl
theorem readL_nil (l:List (List UInt8)) (i:Nat) (b:TBylaw):readL i (l++ [[]]) b=readL i l b:=by
 rw [readL_app];cases readL i l b with
 |inl b'=>simp only [readL,stepP_nil]
 |inr e=>rfl
theorem read_lines (t:List UInt8) (b:TBylaw):readL 0 (spl 10 t) b=readL 0 (linesL t) b:=by
 rcases lines_or t with h|h
 · rw [h]
 · rw [h,readL_nil]
def Small (n:Int):Prop:=0≤n∧n<1000000
theorem mapM_itoa:∀ns:List Int,(∀n∈ns,Small n)→(ns.map Lib.itoa).mapM numW=some ns
 | [],_=>rfl
 |n::ns,h=>by
  have hn:=h n List.mem_cons_self;unfold Small at hn
  have e:numW (Lib.itoa n)=some n:=by
   rw [itoa_pos hn.1,numW_dec (by omega),Int.toNat_of_nonneg hn.1]
  rw [List.map_cons,List.mapM_cons,e,mapM_itoa ns fun m hm=>h m (List.mem_cons_of_mem _ hm)];rfl
theorem nums_row (ns:List Int) (h:∀n∈ns,Small n):numsW ns.length (ns.map Lib.itoa)=some ns:=by
 unfold numsW;rw [if_pos (by simp),mapM_itoa ns h]
theorem step_ver (b:TBylaw) (v:TVersion) (h:∀n∈verN v,Small n):stepP b (rowL wV (verN v))=some ⟨b.Versions++ [v],b.Streets⟩:=by
 have hw:=rowL_words wV (verN v) (by decide) (by decide) fun n hn=>(h n hn).1
 have hn:=nums_row (verN v) h;unfold stepP;rw [if_neg (by simp [rowL,wV]),hw];simp only;rw [if_pos trivial,show(11:Nat)=(verN v).length from rfl,hn];rfl
theorem step_str (b:TBylaw) (s:TStreet) (h:∀n∈strN s,Small n):stepP b (rowL wS (strN s))=some ⟨b.Versions,b.Streets++ [s]⟩:=by
 have hw:=rowL_words wS (strN s) (by decide) (by decide) fun n hn=>(h n hn).1
 have hn:=nums_row (strN s) h;unfold stepP;rw [if_neg (by simp [rowL,wS]),hw];simp only;rw [if_neg (by decide),if_pos trivial,show(5:Nat)=(strN s).length from rfl,hn];rfl
theorem read_vers:∀(l:List TVersion) (i:Nat) (b:TBylaw),(∀v∈l,∀n∈verN v,Small n)→readL i (l.map fun v=>rowL wV (verN v)) b= .inl ⟨b.Versions++l,b.Streets⟩
 | [],i,b,_=>by simp [readL]
 |v::l,i,b,h=>by
  simp only [List.map_cons,readL,step_ver b v (h v List.mem_cons_self)];rw [read_vers l _ _ fun u hu=>h u (List.mem_cons_of_mem _ hu)];simp
theorem read_strs:∀(l:List TStreet) (i:Nat) (b:TBylaw),(∀v∈l,∀n∈strN v,Small n)→readL i (l.map fun v=>rowL wS (strN v)) b= .inl ⟨b.Versions,b.Streets++l⟩
 | [],i,b,_=>by simp [readL]
 |v::l,i,b,h=>by
  simp only [List.map_cons,readL,step_str b v (h v List.mem_cons_self)];rw [read_strs l _ _ fun u hu=>h u (List.mem_cons_of_mem _ hu)];simp
theorem read_print (b:TBylaw) (hv:∀v∈b.Versions,∀n∈verN v,Small n) (hs:∀s∈b.Streets,∀n∈strN s,Small n):readL 0 (spl 10 (printL b)) ⟨[], []⟩= .inl b:=by
 unfold printL;rw [spl_rows 10 (rowsB b) ?_,readL_nil]
 · unfold rowsB;rw [readL_app,read_vers _ _ _ hv];simp only;rw [read_strs _ _ _ hs];simp
 · intro d hd;unfold rowsB at hd;rcases List.mem_append.1 hd with hd|hd
   · obtain⟨v,hv',rfl⟩:=List.mem_map.1 hd;exact rowL_ten _ _ (by decide) fun n hn=>(hv v hv' n hn).1
   · obtain⟨s,hs',rfl⟩:=List.mem_map.1 hd;exact rowL_ten _ _ (by decide) fun n hn=>(hs s hs' n hn).1
theorem small_len {n:Int} (h:Small n):(Lib.itoa n).length≤6:=by
 unfold Small at h;rw [itoa_pos h.1];exact dec_len (k:=6) (by omega) (by decide)
theorem flat_le {α β:Type} (f:α→List β) (k:Nat):∀l:List α,(∀x∈l,(f x).length≤k)→(l.flatMap f).length≤l.length*k
 | [],_=>by simp
 |x::l,h=>by
  have:=flat_le f k l fun y hy=>h y (List.mem_cons_of_mem _ hy)
  have:=h x List.mem_cons_self;rw [List.flatMap_cons,List.length_append,List.length_cons,Nat.add_mul];omega
theorem print_len (b:TBylaw) (hv:∀v∈b.Versions,∀n∈verN v,Small n) (hs:∀s∈b.Streets,∀n∈strN s,Small n):(printL b).length≤b.Versions.length*85+b.Streets.length*42:=by
 unfold printL rowsB;rw [List.flatMap_append,List.length_append];refine Nat.add_le_add ?_ ?_
 · refine Nat.le_trans (flat_le _ 85 _ fun d hd=> ?_) (by rw [List.length_map];exact Nat.le_refl _);obtain⟨v,hv',rfl⟩:=List.mem_map.1 hd;have:=rowL_len wV (verN v) 6 fun n hn=>small_len (hv v hv' n hn)
   simp [verN,wV]at this⊢;omega
 · refine Nat.le_trans (flat_le _ 42 _ fun d hd=> ?_) (by rw [List.length_map];exact Nat.le_refl _);obtain⟨v,hv',rfl⟩:=List.mem_map.1 hd;have:=rowL_len wS (strN v) 6 fun n hn=>small_len (hs v hv' n hn)
   simp [strN,wS]at this⊢;omega
end Go.Proofs.YtejkiefdjcfapaaGreatDoor
namespace Go.Proofs.YtejkiefdjcfapaaGreatDoor
open Go Go.RowKit Go.Lib Go.Sx
set_option maxRecDepth 100000
set_option maxHeartbeats 4000000
theorem conv_at (w:World) (b:Nat) (x:Int) (h:0≤x∧x<256) (hc:w.cell? ⟨b,0,none⟩=some (.int .u8 x)) (cap:Nat):(convert 36 9 (.slice (some ⟨b,0,none⟩) 1 cap)).run Tryz.prog w= .ok (.string ⟨#[UInt8.ofNat x.toNat]⟩) w:=by
 have:=run_convert_bytes_back (P:=Tryz.prog) w 36 9 5 ⟨b,0,none⟩ cap [UInt8.ofNat x.toNat] (by kernel_rfl) (by kernel_rfl) (by kernel_rfl) (fun j hj=>by
  simp only [List.length_singleton]at hj;obtain rfl:j=0:=by omega
  show w.cell? ⟨b,0,none⟩=_;rw [hc];have:((UInt8.ofNat x.toNat).toNat:Int)=x:=by simp only [UInt8.toNat_ofNat'];omega
  show _=some (Value.int .u8 ((UInt8.ofNat x.toNat).toNat:Int));rw [this])
 exact this
theorem conv_one (w:World) (x:Int) (h:0≤x∧x<256) (cap:Nat):(convert 36 9 (.slice (some ⟨w.heap.size,0,none⟩) 1 cap)).run Tryz.prog (w.alloc (.cells #[.int .u8 x] 5))= .ok (.string ⟨#[UInt8.ofNat x.toNat]⟩) (w.alloc (.cells #[.int .u8 x] 5)):=
 conv_at _ _ x h (by
  show(w.alloc (.cells #[.int .u8 x] 5 (0,0))).cell? ⟨w.heap.size,0,none⟩=_;rw [World.cell?_alloc_mark];rfl) cap
theorem text_any (m:Nat) (hm:m<1000000000000000000):∀w:World,Calls Tryz.prog 43 #[.int .i64 (m:Int)] w fun e w'=>e= .returned (.string ⟨(Lib.decDigits m).toArray⟩)∧Below w.heap.size w w':=by
 induction m using Nat.strongRecOn with
 |_ m ih=>
 intro w;by_cases h10:m<10
 · rw [show Lib.decDigits m= [UInt8.ofNat (48+m)] by rw [dec_pre,preD,if_pos h10,Nat.mod_eq_of_lt h10];rfl];have kc:=fun w=>conv_one w (48+(m:Int)) (by omega) 1
   have ht:(48+(m:Int)).toNat=48+m:=by omega
   rw [ht]at kc;generalize UInt8.ofNat (48+m)=c at kc⊢
   go_enter Tryz.func43,Tryz.ntmps43
   go_wp2
   go_ret
   exact⟨rfl,(Below.refl _ w).alloc (Nat.le_refl _) _⟩
 · rw [dec_pre,preD,if_neg h10];have e1:(m:Int).tmod 10=((m % 10:Nat):Int):=by rw [Int.tmod_eq_emod_of_nonneg (by omega)];omega
   have e2:IntKind.u8.wrap (IntKind.i64.wrap (48+(m:Int).tmod 10))=((48+m % 10:Nat):Int):=by
    rw [e1,wrap_id (by omega),show((48:Int)+((m % 10:Nat):Int))=((48+m % 10:Nat):Int) by omega];generalize hk:48+m % 10=k;have hk2:k<58:=by omega
    clear hk;revert k;decide
   have kc:=fun w b hc=>conv_at w b (IntKind.u8.wrap (IntKind.i64.wrap (48+(m:Int).tmod 10))) (by rw [e2];omega) hc 1
   have ht:(IntKind.u8.wrap (IntKind.i64.wrap (48+(m:Int).tmod 10))).toNat=48+m % 10:=by rw [e2];omega
   have kd:=fun w=>conv_one w (IntKind.u8.wrap (IntKind.i64.wrap (48+(m:Int).tmod 10))) (by rw [e2];omega) 1
   have kd2:(convert 36 9 (.slice (some ⟨w.heap.size,0,none⟩) 1 1)).run Tryz.prog (w.drew.alloc (.cells #[.int .u8 (IntKind.u8.wrap (IntKind.i64.wrap (48+(m:Int).tmod 10)))] 5))=_:=kd w.drew;clear e1 e2;rw [ht]at kc kd kd2;have hl:(Lib.decDigits (m / 10)).length≤18:=dec_len (by omega) (by decide);have ih2:=ih (m / 10) (by omega) (by omega);have hq:((m / 10:Nat):Int)=IntKind.i64.wrap ((m:Int) / 10):=by rw [wrap_id (by omega)];omega
   rw [hq]at ih2;generalize UInt8.ofNat (48+m % 10)=c at kc kd kd2⊢;generalize Lib.decDigits (m / 10)=l at ih2 hl⊢
   have hc2:¬(9223372036854775807<(⟨l.toArray⟩:ByteArray).size+(⟨#[c]⟩:ByteArray).size):=by
    show¬(9223372036854775807<l.length+1);omega
   have hc3:¬(9223372036854775807<l.length+1):=by omega
   have hbd:Below w.heap.size w w.drew:=⟨rfl,rfl,rfl,Nat.le_refl _,fun _ _=>rfl⟩;have hcat:(⟨l.toArray⟩:ByteArray)++⟨#[c]⟩=⟨(l++ [c]).toArray⟩:=by apply ByteArray.ext;simp
   have Hcat:=Lib.hid hcat;clear ih hcat
   go_enter Tryz.func43,Tryz.ntmps43
   go_wp2
   go_region_held (fun w'=>True)
    (first|trivial|go_keep)
    ((go_at_call 43;refine(ih2 _).mono ?_;intro e' w2 h9;obtain⟨h8,h9⟩:=h9;subst h8;first|(have kk:=kc w2 w.heap.size ((h9.cell (p:=⟨w.heap.size,0,none⟩) (by simp)).trans ((World.cell?_alloc_mark w.drew _ 5 (0,0) 0).trans rfl)))|skip))
   all_goals
    go_wp2
    go_ret
    refine⟨congrArg (fun x=>Ending.returned (.string x)) Hcat.out, ?_⟩
    first
     |exact(hbd.trans (h9.mono (Nat.le_refl _))).alloc (by have:=h9.size;exact this) _
     |exact(hbd.alloc (Nat.le_refl _) _).trans (h9.mono (by simp))
def m_R01_Text (n:Int):Option ByteArray:=gd (0≤n∧n<1000000000000000000) (some ⟨(Lib.itoa n).toArray⟩)
theorem d_R01_Text (n:Int) (r:ByteArray) (hm:m_R01_Text n=some r):Does Tryz.prog 43 [.v (.int .i64 n)] (fun x=>x= .v (.string r)):=by
 obtain⟨hg,hm⟩:=gd_some hm;cases hm;obtain⟨m,rfl⟩:=Int.eq_ofNat_of_zero_le hg.1;intro ok w vs hr _ _;rw [repL1 hr];refine(text_any m (by omega) w).mono fun e w' ⟨he,hb⟩=>⟨_,_,he,rfl, ?_,hb⟩
 have hi:Lib.itoa (m:Int)=Lib.decDigits m:=by unfold Lib.itoa;rw [if_neg (by omega)];rfl
 simp [Rep,oneV,hi]
set_option maxRecDepth 100000
set_option maxHeartbeats 8000000
theorem gl_pow10:GlobAt Tryz.prog "internal/strconv.uint64pow10" 0:=⟨by kernel_rfl,by kernel_rfl⟩
theorem gl_syn:GlobAt Tryz.prog "strconv.ErrSyntax" 2:=⟨by kernel_rfl,by kernel_rfl⟩
theorem gl_rng:GlobAt Tryz.prog "strconv.ErrRange" 3:=⟨by kernel_rfl,by kernel_rfl⟩
theorem itoa_c (n:Int) (h: -9223372036854775808≤n∧n≤9223372036854775807) (w:World) (hgi:GIW Tryz.prog w):Calls Tryz.prog 39 #[.int .i64 n] w fun e w'=>e= .returned (.string ⟨(Lib.itoa n).toArray⟩)∧Below w.heap.size w w':=
 (Go.Proofs.Any.strconv_Itoa lay_itoaA n h.1 h.2 w (hgi.tab gl_pow10)).mono fun e w' ⟨he,k,os,hw⟩=>⟨he,by subst hw;exact Lib.below_grow _ w (Nat.le_refl _) k os⟩
theorem atoi_ok (s:ByteArray) (hs:s.size≤281474976710656) (v:Int) (h:Lib.atoiAll s.data.toList= .ok v) (w:World):Calls Tryz.prog 78 #[.string s] w fun e w'=>e= .returned (.tuple #[.int .i64 v, .nilIface])∧Below w.heap.size w w':=
 (Go.Proofs.Any.strconv_Atoi_ok lay_atoi s (by omega) v h w).mono fun e w' ⟨he,hw⟩=>⟨he,by
  rcases hw with rfl|⟨t,rfl⟩
  · exact Below.refl _ _
  · exact below_bytes w _ t⟩
def IsErr (w:World) (e:Ending) (w':World):Prop:=∃v t p,e= .returned (.tuple #[.int .i64 v, .iface t (.pointer (some p))])∧Below w.heap.size w w'
theorem atoi_no (s:ByteArray) (hs:s.size≤281474976710656) (h:∀v,Lib.atoiAll s.data.toList≠ .ok v) (w:World) (hgi:GIW Tryz.prog w):Calls Tryz.prog 78 #[.string s] w (IsErr w):=by
 cases ha:Lib.atoiAll s.data.toList with
 |ok v=>exact absurd ha (h v)
 |range=>
  obtain⟨tp,p,hc⟩:=hgi.errs (.inr gl_rng);exact(Go.Proofs.Any.strconv_Atoi_range lay_atoi s hs ha _ w hc (.inr ⟨tp,p,rfl⟩)).mono fun e w' ⟨N,he,_,_,hb⟩=>⟨_,_,_,he,hb⟩
 |_=>
  obtain⟨tp,p,hc⟩:=hgi.errs (.inl gl_syn);exact(Go.Proofs.Any.strconv_Atoi_syntax lay_atoi s hs ha _ w hc (.inr ⟨tp,p,rfl⟩)).mono fun e w' ⟨N,he,_,_,hb⟩=>⟨_,_,_,he,hb⟩
theorem run_neq_err (t:TypeId) (q:Addr) (w:World):(binOp .neq 44 (.iface t (.pointer (some q))) .nilIface).run Tryz.prog w= .ok (.bool true) w:=by
 have h:∀d:Nat,(Op.equalIn (d+1) 44 (.iface t (.pointer (some q))) .nilIface).run Tryz.prog w= .ok false w:=fun d=>by
  simp [Op.equalIn,run_underlying Tryz.underlying44]
 simp only [binOp];simp [Op.equal,Op.maxDepth,h 9999]
def badE (at_:Int):List PanicEntry:= [{ v:= .iface 84 (.agg #[.int .i64 at_]),recovered:=false}]
def bl (l:List ByteArray):List (List UInt8):=l.map fun s=>s.data.toList
def NumPost (many:Nat) (at_:Int) (l:List ByteArray) (w:World) (e:Ending) (w':World):Prop:=Below w.heap.size w w'∧match numsW many (bl l)with
 |some ns=>∃g:Nat,w.heap.size≤g∧e= .returned (.slice (some ⟨g,0,none⟩) many many)∧w'.heap[g]?=some (.cells (ns.map (Value.int .i64)).toArray 3 (0,0))
 |none=>e= .panicked (badE at_)
def NumR (many:Nat) (l:List ByteArray) (w:World) (i:Value) (wr:World):Prop:=
 ∃(k:Nat) (ns:List Int),k≤many∧i= .int .i64 k∧((bl l).take k).mapM numW=some ns∧ns.length=k∧wr.heap[w.heap.size]?=some (.cells ((ns++List.replicate (many-k) 0).map (Value.int .i64)).toArray 3 (0,0))∧Below w.heap.size w wr∧w.heap.size+1≤wr.heap.size
theorem mapM_none {α β:Type} (f:α→Option β):∀(l:List α) (k:Nat) (x:α),l[k]?=some x→f x=none→l.mapM f=none
 | [],k,x,h,_=>by simp at h
 |a::l,0,x,h,hx=>by
  simp only [List.getElem?_cons_zero,Option.some.injEq]at h;subst h;rw [List.mapM_cons,hx];rfl
 |a::l,k+1,x,h,hx=>by
  rw [List.getElem?_cons_succ]at h;rw [List.mapM_cons,mapM_none f l k x h hx];cases f a<;>rfl
theorem mapM_snoc {α β:Type} (f:α→Option β):∀(l:List α) (x:α) (ns:List β) (y:β),l.mapM f=some ns→f x=some y→(l++ [x]).mapM f=some (ns++ [y])
 | [],x,ns,y,h,hx=>by
  cases h;simp [List.mapM_cons,hx]
 |a::l,x,ns,y,h,hx=>by
  rw [List.mapM_cons]at h;cases ha:f a with
  |none=>rw [ha]at h;cases h
  |some b=>
   rw [ha]at h;cases hl:l.mapM f with
   |none=>rw [hl]at h;cases h
   |some m=>
    rw [hl]at h;cases h;rw [List.cons_append,List.mapM_cons,ha,mapM_snoc f l x m y hl hx];rfl
theorem numS_post {many:Nat} {at_:Int} {l:List ByteArray} {w w':World} (hb:Below w.heap.size w w') (h:numsW many (bl l)=none):NumPost many at_ l w (.panicked (badE at_)) w':=⟨hb,by rw [h]⟩
theorem numR_none {l:List ByteArray} {k:Nat} (hk:k<l.length) (h:numW (l[k]).data.toList=none):numsW l.length (bl l)=none:=by
 unfold numsW;rw [if_pos (by simp [bl])];refine mapM_none _ _ k (l[k]).data.toList ?_ h;simp [bl,hk]
theorem numR_step {l:List ByteArray} {w wr w1:World} {k:Nat} {ns:List Int} {v:Int} (hk:k<l.length) (hv:numW (l[k]).data.toList=some v) (hns:((bl l).take k).mapM numW=some ns) (hn:ns.length=k)
 (hc:wr.heap[w.heap.size]?=some (.cells ((ns++List.replicate (l.length-k) 0).map (Value.int .i64)).toArray 3 (0,0))) (hb:Below w.heap.size w wr) (hs:w.heap.size+1≤wr.heap.size) (hb1:Below wr.heap.size wr w1):
 NumR l.length l w (.int .i64 ((k+1:Nat):Int)) (w1.setCell ⟨w.heap.size,k,none⟩ (.int .i64 v)):=by
 have h1:w1.heap[w.heap.size]?=_:=(hb1.block _ (by omega)).trans hc;refine⟨k+1,ns++ [v],by omega,rfl, ?_,by simp [hn], ?_,(hb.trans (hb1.mono (by omega))).setCell (p:=⟨w.heap.size,k,none⟩) (Nat.le_refl _) _, ?_⟩
 · rw [List.take_succ_eq_append_getElem (by simpa [bl]using hk)]
   exact mapM_snoc numW _ _ _ _ hns (by simpa [bl]using hv)
 · have e:(w1.setCell ⟨w.heap.size,k,none⟩ (.int .i64 v)).heap[w.heap.size]?=some (.cells ((((ns++List.replicate (l.length-k) 0).map (Value.int .i64)).toArray).setIfInBounds k (.int .i64 v)) 3 (0,0)):=by
    simp [World.setCell,Array.getElem?_modify,h1]
   rw [e];congr 2;rw [show l.length-k=(l.length-(k+1))+1 by omega,List.replicate_succ];apply Array.ext';simp [hn,List.set_append]
 · have:=hb1.size;simp only [World.setCell,Array.size_modify];omega
theorem made_zeros (n:Nat):madeCells #[.int .i64 0] n=(([]++List.replicate n (0:Int)).map (Value.int .i64)).toArray:=by
 apply Array.ext
 · simp [size_madeCells]
 · intro i h1 h2;simp [madeCells,Nat.mod_one]
theorem numbers_c (many:Nat) (hm:1≤many∧many≤11) (at_:Int) (l:List ByteArray) (b o c:Nat) (hl:∀s∈l,s.size≤281474976710656) (hlen:l.length≤281474976710656) (w:World) (hc:∀j,j<l.length→w.cell? ⟨b,o+j,none⟩=(l.map Value.string)[j]?) (hbl:b<w.heap.size) (hgi:GIW Tryz.prog w):
 Calls Tryz.prog 47 #[.slice (some ⟨b,o,none⟩) l.length c, .int .i64 (many:Int), .int .i64 at_] w (NumPost many at_ l w):=by
 by_cases hml:l.length=many
 · subst hml;have HC:=Lib.hid hc;have HL:=Lib.hid hl;clear hc hl;have h11:(l.length:Int)≤11:=by omega
   have h0:¬((l.length:Int)<0):=by omega
   have hmk:∀w,(Instr.makeSlice 52 (.int .i64 (l.length:Int)) (.int .i64 (l.length:Int))).run Tryz.prog w= .ok (.slice (some ⟨w.heap.size,0,none⟩) l.length l.length) (w.alloc (.cells (madeCells #[.int .i64 0] l.length) 3)):=fun w=>
    run_make_row' 52 3 (.int .i64 0) 8 (by kernel_rfl) (by kernel_rfl) rfl .i64 .i64 l.length (by omega) (by omega) w
   go_enter Tryz.func47,Tryz.ntmps47
   go_wp2
   go_loopw [23] (fun i wr=>NumR l.length l w i wr) (fun i _=>l.length-(RowKit.intOf i).toNat)
   case atStart=>
    refine⟨0, [],by omega,rfl,rfl,rfl, ?_,(Below.refl _ _).alloc (Nat.le_refl _) _,by simp⟩;rw [←made_zeros];exact(MapKept.heap_alloc w _).1
   case round=>
    obtain⟨k,ns,hk,rfl,hns,hn,hblk,hb,hs⟩:=hrel;have hgr:=GIW.below hgi hb;clear hmk;by_cases hlt:k<l.length
    · have hki:(k:Int)<(l.length:Int):=by omega
      have hck:wr.cell? ⟨b,o+k,none⟩=some (.string l[k]):=by
       rw [hb.cell (p:=⟨b,o+k,none⟩) hbl,HC.out k hlt];simp [hlt]
      have hsz:(l[k]).size≤281474976710656:=HL.out _ (List.getElem_mem hlt);have R:=fun v hv w1 hb1=>numR_step (v:=v) (w1:=w1) hlt hv hns hn hblk hb hs hb1
      have N:=fun h=>numR_none hlt h
      have hc0:∀w1,Below wr.heap.size wr w1→w1.cell? ⟨w.heap.size,k,none⟩=some (.int .i64 0):=fun w1 hb1=>by
       have h3:w1.heap[w.heap.size]?=_:=(hb1.block _ (by omega)).trans hblk;rw [Lib.cell_of_heap h3];simp [hn,List.getElem?_append,List.getElem?_replicate];omega
      have hf0:∀w1,Below wr.heap.size wr w1→w1.frozen? ⟨w.heap.size,k,none⟩=false:=fun w1 hb1=>by
       have h3:w1.heap[w.heap.size]?=_:=(hb1.block _ (by omega)).trans hblk;exact Lib.frozen_of_heap h3 k
      have hbb:∀w1,Below wr.heap.size wr w1→Below w.heap.size w w1:=fun w1 hb1=>hb.trans (hb1.mono (by omega))
      have HR:=Lib.hid R;have HN:=Lib.hid N;have HC0:=Lib.hid hc0;have HF0:=Lib.hid hf0;have HBB:=Lib.hid hbb;clear R N hc0 hf0 hbb hns hn hblk hs;generalize l[k]=s at hck hsz HR HN;cases hat:Lib.atoiAll s.data.toList with
      |ok v=>
       have hvb:=Lib.atoiAll_bounds hat
       go_wp2_with fail
       refine(atoi_ok s hsz v hat wr).mono ?_;rintro e w1 ⟨rfl,hb1⟩;by_cases hv0:v<0
       · have hnw:numW s.data.toList=none:=by
          unfold numW;rw [hat];simp only;rw [if_neg (by omega)]
         go_wp2
         simp [Instr.panic,Result.andThen,Oper.upon,Exit.then,Exit.inBlock];exact⟨rfl,numS_post (HBB.out _ hb1) (HN.out hnw)⟩
       · by_cases h6:s.size≤6
         · have hg1:=GIW.below hgr hb1
           go_wp2_with fail
           refine(itoa_c v hvb w1 hg1).mono ?_;rintro e w2 ⟨rfl,hb2⟩;have hb12:Below wr.heap.size wr w2:=hb1.trans (hb2.mono hb1.size);by_cases hi:Lib.itoa v=s.data.toList
           · have hnw:numW s.data.toList=some v:=by
              unfold numW;rw [hat];simp only;rw [if_pos ⟨by omega,by simpa using h6,hi⟩]
             have c1:=HC0.out w2 hb12;have f1:=HF0.out w2 hb12;have R2:=HR.out v hnw w2 hb12;have he:(⟨(Lib.itoa v).toArray⟩:ByteArray)=s:=by rw [hi]
             rw [he];clear hnw he hi
             go_wp2
             go_roundw
             case rel=>exact R2
             case measure=>simp [RowKit.intOf];omega
           · have hnw:numW s.data.toList=none:=by
              unfold numW;rw [hat];simp only;rw [if_neg fun h=>hi h.2.2]
             have he:((⟨(Lib.itoa v).toArray⟩:ByteArray).toList==s.toList)=false:=by
              rw [ByteArray.toList_eq,ByteArray.toList_eq];simpa using hi
             generalize (⟨(Lib.itoa v).toArray⟩:ByteArray)=x at he⊢
             go_wp2
             simp [Instr.panic,Result.andThen,Oper.upon,Exit.then,Exit.inBlock];exact⟨rfl,numS_post (HBB.out _ hb12) (HN.out hnw)⟩
         · have hnw:numW s.data.toList=none:=by
            unfold numW;rw [hat];simp only;rw [if_neg fun h=>h6 (by simpa using h.2.1)]
           have h6':(6:Int)<(s.size:Int):=by omega
           go_wp2
           simp [Instr.panic,Result.andThen,Oper.upon,Exit.then,Exit.inBlock];exact⟨rfl,numS_post (HBB.out _ hb1) (HN.out hnw)⟩
      |_=>
       have hno:∀v,Lib.atoiAll s.data.toList≠ .ok v:=fun v e=>by rw [hat]at e;cases e
       have hnw:numW s.data.toList=none:=by unfold numW;rw [hat]
       clear hat
       go_wp2_with fail
       refine(atoi_no s hsz hno wr hgr).mono ?_;rintro e w1 ⟨v,t,q,rfl,hb1⟩;have hne:∀w,(binOp .neq 44 (.iface t (.pointer (some q))) .nilIface).run Tryz.prog w= .ok (.bool true) w:=run_neq_err t q
       go_wp2
       simp [Instr.panic,Result.andThen,Oper.upon,Exit.then,Exit.inBlock];exact⟨rfl,numS_post (HBB.out _ hb1) (HN.out hnw)⟩
    · obtain rfl:k=l.length:=by omega
      have hres:numsW l.length (bl l)=some ns:=by
       unfold numsW;rw [if_pos (by simp [bl]),←hns,List.take_of_length_le (by simp [bl])]
      have hblk2:wr.heap[w.heap.size]?=some (.cells (ns.map (Value.int .i64)).toArray 3 (0,0)):=by rw [hblk];simp
      have P:NumPost l.length at_ l w (.returned (.slice (some ⟨w.heap.size,0,none⟩) l.length l.length)) wr:=⟨hb,by rw [hres];exact⟨_,Nat.le_refl _,rfl,hblk2⟩⟩;clear hblk hns hres hblk2
      go_wp2
      go_ret
      exact P
 · have hres:numsW many (bl l)=none:=by unfold numsW;rw [if_neg (by simpa [bl]using hml)]
   have hne:¬((l.length:Int)=(many:Int)):=by omega
   go_enter Tryz.func47,Tryz.ntmps47
   go_wp2
   simp [Instr.panic,Result.andThen,Oper.upon,Exit.then,bodyPost];exact numS_post (Below.refl _ _) hres
set_option maxRecDepth 100000
set_option maxHeartbeats 8000000
theorem catch_idle (p q r:Addr) (w:World):CallsD Tryz.prog 44 #[.pointer (some p), .pointer (some q), .pointer (some r)] .returning w fun e u' w'=>e= .returned (.tuple #[])∧u'= .returning∧w'=w:=by
 refine callsD_of_wpS Tryz.func44 rfl fun c₀ cs hu=> ?_
 apply wpS_seq;apply wpS_region;simp [wpOpsS,go_sem,recoverD,hu,Tryz.ntmps44,Exit.thenS];refine wpS_of_wp ?_
 go_wp2
 cases c₀
 simp_all [bodyPostS,results,Tryz.results44]
theorem setCell_at {w:World} {a j:Nat} {v:Value} {cs:Array Value} {T:TypeId} {fr:Nat×Nat} (h:w.heap[a]?=some (.cells cs T fr)):(w.setCell ⟨a,j,none⟩ v).heap[a]?=some (.cells (cs.setIfInBounds j v) T fr):=by
 simp [World.setCell,Array.getElem?_modify,h]
theorem setCell_ne {w:World} {a b j:Nat} {v:Value} (h:a≠b):(w.setCell ⟨a,j,none⟩ v).heap[b]?=w.heap[b]?:=by
 simp [World.setCell,Array.getElem?_modify,h]
theorem setCell_size {w:World} {p:Addr} {v:Value}:(w.setCell p v).heap.size=w.heap.size:=by simp [World.setCell]
theorem new_cell (W:World) (C:Array Value) (t:TypeId) (n:Nat) (hn:n=W.heap.size):(W.alloc (.cells C t)).drew.cell? ⟨n,0,none⟩=C[0]?:=by
 subst hn;exact World.cell?_alloc_mark W C t (0,0) 0
theorem run_ta (x:Int) (w:World):(Instr.typeAssert (.iface 84 (.agg #[.int .i64 x])) 20 84 true).run Tryz.prog w= .ok (.tuple #[.agg #[.int .i64 x], .bool true]) w:=by kernel_rfl
theorem catch_bad (n a:Nat) (at_:Int) (w:World) (x1 x2 x3 x4:Value) (hna:n≤a) (ha:w.heap[a]?=some (.cells #[x1,x2] 25 (0,0))) (hb:w.heap[a+1]?=some (.cells #[x3] 3 (0,0))) (hc:w.heap[a+2]?=some (.cells #[x4] 26 (0,0))):
 CallsD Tryz.prog 44 #[.pointer (some ⟨a,0,none⟩), .pointer (some ⟨a+1,0,none⟩), .pointer (some ⟨a+2,0,none⟩)] (.panicking (badE at_)) w fun e u' w'=>e= .returned (.tuple #[])∧u'= .panicking [{ v:= .iface 84 (.agg #[.int .i64 at_]),recovered:=true}]∧
  w'.heap[a]?=some (.cells #[.slice none 0 0, .slice none 0 0] 25 (0,0))∧w'.heap[a+1]?=some (.cells #[.int .i64 at_] 3 (0,0))∧w'.heap[a+2]?=some (.cells #[.int .i64 5] 26 (0,0))∧Below n w w':=by
 have hta:=run_ta at_;have hlta:a<w.heap.size:=(Array.getElem?_eq_some_iff.1 ha).1;have hltb:a+1<w.heap.size:=(Array.getElem?_eq_some_iff.1 hb).1;have hltc:a+2<w.heap.size:=(Array.getElem?_eq_some_iff.1 hc).1;have c0:w.cell? ⟨a,0,none⟩=some x1:=by rw [Lib.cell_of_heap ha];rfl
 have f0:w.frozen? ⟨a,0,none⟩=false:=Lib.frozen_of_heap ha 0;have c1:w.cell? ⟨a,1,none⟩=some x2:=by rw [Lib.cell_of_heap ha];rfl
 have f1:w.frozen? ⟨a,1,none⟩=false:=Lib.frozen_of_heap ha 1;have cb:w.cell? ⟨a+1,0,none⟩=some x3:=by rw [Lib.cell_of_heap hb];rfl
 have fb:w.frozen? ⟨a+1,0,none⟩=false:=Lib.frozen_of_heap hb 0;have cc:w.cell? ⟨a+2,0,none⟩=some x4:=by rw [Lib.cell_of_heap hc];rfl
 have fc:w.frozen? ⟨a+2,0,none⟩=false:=Lib.frozen_of_heap hc 0;have HA:=Lib.hid ha;have HB:=Lib.hid hb;have HC:=Lib.hid hc;clear ha hb hc;refine callsD_of_wpS Tryz.func44 rfl fun c₀ cs hu=> ?_
 apply wpS_seq;apply wpS_region;simp [wpOpsS,go_sem,recoverD,hu,Tryz.ntmps44,Exit.thenS,badE];refine wpS_of_wp ?_
 go_wp2
 go_region_held3 (fun w'=>w'.cell? ⟨w.heap.size,0,none⟩=some (.int .i64 at_))
  (first|(rw [new_cell]<;>first|rfl|(simp only [setCell_size];done))|go_keep)
  (fail)
 go_wp2
 simp only [bodyPostS,true_and];have hab:a≠a+1:=by omega
 have hac:a≠a+2:=by omega
 have hbc:a+1≠a+2:=by omega
 refine⟨_,rfl, .tuple #[],by simp [results,Tryz.results44],rfl,rfl, ?_, ?_, ?_, ?_⟩
 · show(World.alloc _ _).heap[a]?=_;rw [Lib.alloc_old _ _ _ (by simpa [setCell_size]using hlta),setCell_ne hac.symm,setCell_ne hab.symm]
   simpa using setCell_at (j:=1) (v:= .slice none 0 0) (setCell_at (j:=0) (v:= .slice none 0 0) HA.out)
 · show(World.alloc _ _).heap[a+1]?=_;rw [Lib.alloc_old _ _ _ (by simpa [setCell_size]using hltb),setCell_ne hbc.symm]
   refine(setCell_at (j:=0) (v:= .int .i64 at_) (cs:= #[x3]) (T:=3) (fr:=(0,0)) ?_).trans rfl;simp only [setCell_ne hab];exact HB.out
 · show(World.alloc _ _).heap[a+2]?=_;rw [Lib.alloc_old _ _ _ (by simpa [setCell_size]using hltc)]
   refine(setCell_at (j:=0) (v:= .int .i64 5) (cs:= #[x4]) (T:=26) (fr:=(0,0)) ?_).trans rfl;simp only [setCell_ne hbc,setCell_ne hac];exact HC.out
 · have h:=(((((Below.refl n w).setCell (p:=⟨a,0,none⟩) hna (.slice none 0 0)).setCell (p:=⟨a,1,none⟩) hna (.slice none 0 0)).setCell (p:=⟨a+1,0,none⟩) (by show n≤a+1;omega) (.int .i64 at_)).setCell (p:=⟨a+2,0,none⟩) (by show n≤a+2;omega) (.int .i64 5)).alloc (by simp only [setCell_size];omega) (.cells #[.int .i64 at_] 84);exact⟨h.os,h.tape,h.output,h.size,h.block⟩
end Go.Proofs.YtejkiefdjcfapaaGreatDoor
namespace Go.Proofs.YtejkiefdjcfapaaGreatDoor
open Go Go.Sx Go.Lib
theorem spl_len (c:UInt8):∀l:List UInt8,1≤(spl c l).length∧(spl c l).length≤l.length+1
 | []=>by simp [spl]
 |x::l=>by
  have ih:=spl_len c l;unfold spl;by_cases h:x=c
  · rw [if_pos h];simp only [List.length_cons];omega
  · rw [if_neg h];split
    · simp
    · rename_i a r he;rw [he]at ih;simp only [List.length_cons]at ih⊢;omega
theorem spl_mem (c:UInt8):∀(l d:List UInt8),d∈spl c l→d.length≤l.length
 | [],d,h=>by
  simp only [spl,List.mem_singleton]at h;subst h;exact Nat.le_refl _
 |x::l,d,h=>by
  unfold spl at h;by_cases hx:x=c
  · rw [if_pos hx]at h;rcases List.mem_cons.1 h with rfl|h
    · simp
    · have:=spl_mem c l d h;simp only [List.length_cons];omega
  · rw [if_neg hx]at h;split at h
    · simp only [List.mem_singleton]at h;subst h;simp
    · rename_i a r he;rcases List.mem_cons.1 h with rfl|h
      · have:=spl_mem c l a (by rw [he];exact List.mem_cons_self);simp only [List.length_cons];omega
      · have:=spl_mem c l d (by rw [he];exact List.mem_cons_of_mem _ h);simp only [List.length_cons];omega
def wordsB (s:ByteArray):List ByteArray:=if s.data.toList.head?=some 35 then []else(wordsL s.data.toList).map YtejkiefdjcfapaaGreatDoor.bOf
theorem hash_eq (s:ByteArray) (h:s.size≤281474976710656):m_strings_HasPrefix s (⟨#[35]⟩:ByteArray)=some (decide (s.data.toList.head?=some 35)):=by
 have h1:(⟨#[35]⟩:ByteArray).size=1:=rfl;obtain⟨⟨l⟩⟩:=s;unfold m_strings_HasPrefix m_internal_stringslite_HasPrefix;rw [h1];have hsz:(⟨⟨l⟩⟩:ByteArray).size=l.length:=rfl;rw [hsz];cases l with
 |nil=>rfl
 |cons x l=>
  have h2:decide ((((x::l).length:Nat):Int)≥((1:Nat):Int))=true:=by simp only [List.length_cons,decide_eq_true_eq];omega
  rw [if_pos h2];unfold gd;rw [if_pos (by simp only [List.length_cons];omega)];simp only [Option.bind_some];congr 1;rw [ByteArray.toList_eq,ByteArray.toList_eq,Lib.extract_data];simp only [List.head?_cons,Option.some.injEq];by_cases hx:x=35
  · subst hx;simp
  · simp [hx]
theorem fold_filter {α:Type} (p:α→Bool):∀(l out:List α),l.foldl (fun out e=>if p e=true then out++ [e]else out) out=out++l.filter p
 | [],out=>by simp
 |x::l,out=>by
  rw [List.foldl_cons,fold_filter p l];by_cases h:p x=true
  · rw [if_pos h,List.filter_cons_of_pos h];simp
  · rw [if_neg h,List.filter_cons_of_neg h]
theorem words_eq (s:ByteArray) (h:s.size≤1000000):m_bylaw_words s=some (wordsB s):=by
 unfold m_bylaw_words wordsB;rw [hash_eq s (by omega)];simp only [Option.bind_some];by_cases h35:s.data.toList.head?=some 35
 · rw [if_pos (by simpa using h35),if_pos h35]
 · rw [if_neg (by simpa using h35),if_neg h35]
   unfold m_strings_Split gd;rw [if_pos ⟨by omega,rfl⟩];simp only [Option.bind_some];rw [splitB_spl];have hlen:=(spl_len 32 s.data.toList).2;have hsz:s.data.toList.length=s.size:=(Lib.size_eq s).symm;rw [hsz]at hlen;obtain⟨L,hL⟩:∃L,L=(spl 32 s.data.toList).map YtejkiefdjcfapaaGreatDoor.bOf:=⟨_,rfl⟩;have hll:L.length≤s.size+1:=by rw [hL,List.length_map];exact hlen
   have hloop:=loop_list (body:=m_bylaw_words_L1 L) (E:=List ByteArray×Int) (R:=Empty) L (by omega) (fun k (o:List ByteArray)=>(o,(k:Int))) (fun o (e:ByteArray)=> .inl (if(!(e.toList==(⟨#[]⟩:ByteArray).toList))=true then o++ [e]else o)) (fun r=>nomatch r) (fun o=>(o,(L.length:Int)))
    (fun pre o=>o.length≤pre.length) (fun pre x post o hl hP=>by
     have hk:pre.length<L.length:=by rw [hl];simp
     refine⟨?_,fun s' hs'=> ?_⟩
     · have hi:idx L (pre.length:Int)=some x:=by
        rw [hl];unfold idx;simp
       unfold m_bylaw_words_L1;simp only;rw [if_pos (by simpa using hk),hi]
       simp only [Option.bind_some];have hW:W ((pre.length:Int)+1)=((pre.length+1:Nat):Int):=by unfold W;rw [wrap_id (by omega)];rfl
       rw [hW];split
       · unfold gd;rw [if_pos];simp only [List.length_singleton];omega
       · rfl
     · cases hs';rw [List.length_append,List.length_singleton];split
       · rw [List.length_append,List.length_singleton];omega
       · omega) (fun o hP=>by
     unfold m_bylaw_words_L1;simp) [] (by simp)
   rw [←hL];have h0:(([]:List ByteArray),(0:Int))=(([]:List ByteArray),(((0:Nat)):Int)):=rfl;rw [h0,hloop,runL_foldl];simp only [Option.bind_some];rw [fold_filter,List.nil_append,hL];congr 1;unfold wordsL;rw [List.filter_map];congr 1;refine List.filter_congr fun d _=> ?_
   simp only [Function.comp];rw [ByteArray.toList_eq,ByteArray.toList_eq];show(!(d== []))=decide (d≠ []);cases d<;>simp
end Go.Proofs.YtejkiefdjcfapaaGreatDoor
namespace Go.Proofs.YtejkiefdjcfapaaGreatDoor
open Go Go.RowKit Go.Lib Go.Sx
set_option maxRecDepth 100000
set_option maxHeartbeats 8000000
def verC (v:TVersion):List Value:=(verN v).map (Value.int .i64)
def strC (s:TStreet):List Value:=(strN s).map (Value.int .i64)
structure ReadI (N:Nat) (w wr:World) (lines:List ByteArray) (k:Nat) (b:TBylaw) (sv ss:Value):Prop where
 h0:wr.heap[N]?=some (.cells #[sv,ss] 25 (0,0))
 h1:wr.heap[N+1]?=some (.cells #[.int .i64 0] 3 (0,0))
 h2:wr.heap[N+2]?=some (.cells #[.int .i64 0] 26 (0,0))
 hl:wr.heap[N+3]?=some (.cells (lines.map Value.string).toArray 9 (0,0))
 ov:wr.ownsRow (N+4) 42 11 sv b.Versions.length (b.Versions.flatMap verC)
 os:wr.ownsRow (N+4) 49 5 ss b.Streets.length (b.Streets.flatMap strC)
 ne:sv.ownBlock=none∨ss.ownBlock=none∨sv.ownBlock≠ss.ownBlock
 bel:Below N w wr
 sz:N+4≤wr.heap.size
 cv:b.Versions.length≤k
 cs:b.Streets.length≤k
 hk:k≤lines.length
 rd:readL 0 (bl lines) ⟨[], []⟩=readL k ((bl lines).drop k) b
theorem ownsRow_below {w w1:World} {base e size n:Nat} {v:Value} {xs:List Value} (h:w.ownsRow base e size v n xs) (hb:Below w.heap.size w w1):w1.ownsRow base e size v n xs:=
 h.kept (row:=none) ⟨hb.os,hb.tape,hb.output,hb.size,fun k hk _=>hb.block k hk⟩ (by cases hv:v.ownBlock<;>simp)
theorem ownBlock_lt {w:World} {base e size n:Nat} {v:Value} {xs:List Value} (h:w.ownsRow base e size v n xs) {g:Nat} (hg:v.ownBlock=some g):base≤g∧g<w.heap.size:=by
 rcases h.2 with⟨rfl,_⟩|⟨g',cap,cur,rfl,hb,hgg,_⟩
 · simp [Value.ownBlock]at hg
 · simp only [Value.ownBlock,Option.some.injEq]at hg;subst hg;exact⟨hb,(Array.getElem?_eq_some_iff.1 hgg).1⟩
theorem ReadI.below {N:Nat} {w wr w1:World} {lines:List ByteArray} {k:Nat} {b:TBylaw} {sv ss:Value} (h:ReadI N w wr lines k b sv ss) (hb:Below wr.heap.size wr w1):ReadI N w w1 lines k b sv ss:=by
 have hs:=h.sz
 exact { h with
  h0:=(hb.block N (by omega)).trans h.h0
  h1:=(hb.block _ (by omega)).trans h.h1
  h2:=(hb.block _ (by omega)).trans h.h2
  hl:=(hb.block _ (by omega)).trans h.hl
  ov:=ownsRow_below h.ov hb
  os:=ownsRow_below h.os hb
  bel:=h.bel.trans (hb.mono (by omega))
  sz:=by have:=hb.size;omega}
theorem ReadI.drew {N:Nat} {w wr:World} {lines:List ByteArray} {k:Nat} {b:TBylaw} {sv ss:Value} (h:ReadI N w wr lines k b sv ss):ReadI N w wr.drew lines k b sv ss:=
 h.below ⟨rfl,rfl,rfl,Nat.le_refl _,fun _ _=>rfl⟩
theorem step_words (b:TBylaw) (x:ByteArray):stepP b x.data.toList=match bl (wordsB x)with
 | []=>some b
 |h::t=>if h=wV then(numsW 11 t).map fun n=>⟨b.Versions++ [verOf n],b.Streets⟩else if h=wS then(numsW 5 t).map fun n=>⟨b.Versions,b.Streets++ [strOf n]⟩else none:=by
 unfold stepP wordsB;by_cases h:x.data.toList.head?=some 35
 · rw [if_pos h,if_pos h];rfl
 · rw [if_neg h,if_neg h]
   have e:bl ((wordsL x.data.toList).map YtejkiefdjcfapaaGreatDoor.bOf)=wordsL x.data.toList:=by
    unfold bl;rw [List.map_map]
    conv=>rhs;rw [←List.map_id (wordsL _)]
    exact List.map_congr_left fun _ _=>rfl
   simp only [e]
   all_goals (cases wordsL x.data.toList<;>rfl)
theorem read_at {lines:List ByteArray} {k:Nat} {b:TBylaw} (hk:k<lines.length):readL k ((bl lines).drop k) b=match stepP b lines[k].data.toList with
 |some b'=>readL (k+1) ((bl lines).drop (k+1)) b'
 |none=> .inr ((k+1:Nat):Int):=by
 rw [List.drop_eq_getElem_cons (show k<(bl lines).length by simpa [bl]using hk)]
 simp only [readL];have e:(bl lines)[k]'(by simpa [bl]using hk)=lines[k].data.toList:=by simp [bl]
 simp only [e]
 all_goals (cases stepP b lines[k].data.toList<;>rfl)
def dfr (n:Nat):Deferred:= { target:= .fn (.func 44) #[.pointer (some ⟨n,0,none⟩), .pointer (some ⟨n+1,0,none⟩), .pointer (some ⟨n+2,0,none⟩)],args:= #[]}
structure TmpsOK (n:Nat) (t:Array Value):Prop where
 t2:t[2]?=some (.pointer (some ⟨n,0,none⟩))
 t3:t[3]?=some (.pointer (some ⟨n+1,0,none⟩))
 t4:t[4]?=some (.pointer (some ⟨n+2,0,none⟩))
def ReadPost (lines:List ByteArray) (w:World) (e:Ending) (w':World):Prop:=Below w.heap.size w w'∧match readL 0 (bl lines) ⟨[], []⟩with
 | .inl b=>∃sv ss,e= .returned (.tuple #[.agg #[sv,ss], .int .i64 0, .int .i64 0])∧w'.ownsRow (w.heap.size+4) 42 11 sv b.Versions.length (b.Versions.flatMap verC)∧w'.ownsRow (w.heap.size+4) 49 5 ss b.Streets.length (b.Streets.flatMap strC)
 | .inr at_=>e= .returned (.tuple #[.agg #[.slice none 0 0, .slice none 0 0], .int .i64 at_, .int .i64 5])
theorem res_load {n:Nat} {w':World} {t:Array Value} {x y:Value} {a e:Int} (ht:TmpsOK n t) (h0:w'.heap[n]?=some (.cells #[x,y] 25 (0,0))) (h1:w'.heap[n+1]?=some (.cells #[.int .i64 a] 3 (0,0))) (h2:w'.heap[n+2]?=some (.cells #[.int .i64 e] 26 (0,0))):
 (results Tryz.f16 t).run Tryz.prog w'= .ok (.tuple #[.agg #[x,y], .int .i64 a, .int .i64 e]) w':=by
 have c0:w'.cell? ⟨n,0,none⟩=some x:=by rw [Lib.cell_of_heap h0];rfl
 have c1:w'.cell? ⟨n,1,none⟩=some y:=by rw [Lib.cell_of_heap h0];rfl
 have ca:w'.cell? ⟨n+1,0,none⟩=some (.int .i64 a):=by rw [Lib.cell_of_heap h1];rfl
 have ce:w'.cell? ⟨n+2,0,none⟩=some (.int .i64 e):=by rw [Lib.cell_of_heap h2];rfl
 simp [results,Tryz.results16,go_sem,ht.t2,ht.t3,ht.t4,c0,c1,ca,ce]
theorem leaves_bad {lines:List ByteArray} {k:Nat} {b:TBylaw} {sv ss:Value} {w w':World} {t:Array Value} (ht:TmpsOK w.heap.size t) (h:ReadI w.heap.size w w' lines k b sv ss) (hk:k<lines.length) (hs:stepP b lines[k].data.toList=none):
 Leaves Tryz.prog Tryz.f16 t (ReadPost lines w) [dfr w.heap.size] (.panicking (badE ((k+1:Nat):Int))) w':=by
 refine leaves_cons (f:=44) (args:= #[.pointer (some ⟨w.heap.size,0,none⟩), .pointer (some ⟨w.heap.size+1,0,none⟩), .pointer (some ⟨w.heap.size+2,0,none⟩)]) (by simp [badE]) (by simp [go_sem]) ?_;refine(catch_bad w.heap.size w.heap.size ((k+1:Nat):Int) w' sv ss _ _ (Nat.le_refl _) h.h0 h.h1 h.h2).mono ?_;rintro e u' w'' ⟨rfl,rfl,g0,g1,g2,g3⟩;have hset:settle (.panicking [{ v:= .iface 84 (.agg #[.int .i64 ((k+1:Nat):Int)]),recovered:=true}])= .returning:=by simp [settle]
 simp only [hset,Leaves];refine⟨_,res_load ht g0 g1 g2,h.bel.trans g3, ?_⟩;rw [h.rd,read_at hk,hs]
theorem leaves_ok {lines:List ByteArray} {b:TBylaw} {sv ss:Value} {w w':World} {t:Array Value} (ht:TmpsOK w.heap.size t) (h:ReadI w.heap.size w w' lines lines.length b sv ss):
 Leaves Tryz.prog Tryz.f16 t (ReadPost lines w) [dfr w.heap.size] .returning w':=by
 refine leaves_cons (f:=44) (args:= #[.pointer (some ⟨w.heap.size,0,none⟩), .pointer (some ⟨w.heap.size+1,0,none⟩), .pointer (some ⟨w.heap.size+2,0,none⟩)]) (by simp) (by simp [go_sem]) ?_;refine(catch_idle ⟨w.heap.size,0,none⟩ ⟨w.heap.size+1,0,none⟩ ⟨w.heap.size+2,0,none⟩ _).mono ?_;rintro e u' w'' ⟨rfl,rfl,rfl⟩;simp only [settle,Leaves];refine⟨_,res_load ht h.h0 h.h1 h.h2,h.bel, ?_⟩;rw [h.rd,List.drop_of_length_le (by simp [bl])];exact⟨sv,ss,rfl,h.ov,h.os⟩
theorem reg_sx {X:Cx} (hP:POK X.P X.tt) {id:Nat} {ops:Array Oper} {Q:Exit→Act→World→Prop} {a:Act} {w:World} {T:List (Nat×SV)} {H:Hp} {nk:Nat} {p:PT} {K:St→Prop} (hr:Rel X ⟨T,H,nk,w,w.heap.size, []⟩ a w) (hp:planOK X.tt X.nt ops p=true)
 (h:xplan X ops.toList p ⟨killA ops.toList T,H,nk,w,w.heap.size, []⟩ [] K) (hQ:∀st' a' w',K st'→Lv X H w st' a' w'→Q .normal a' w'):(Code.region id ops true).wp X.P Q a w:=
 wp_region_any hP.mix (region_draw_any hP hr hp h hQ)
def hp3 (N:Nat) (x y:SV) (v:Value) (n sz ty g:Nat) (xs:List Value) (ns:List SV):Hp:= [(0, .blk N [x,y] 25),(1, .row v n xs sz ty),(2, .blk g ns 3)]
theorem cls3 {P:Program} {tt:List (Nat×TI)} {nt:Nat} {dfs:List Deferred} {N n sz ty g:Nat} {x y:SV} {v:Value} {xs:List Value} {ns:List Int} {w:World} {u1 u2:Value} (hx:u1=den (hp3 N x y v n sz ty g xs (ns.map fun i=> .v (.int .i64 i))) x) (hy:u2=den (hp3 N x y v n sz ty g xs (ns.map fun i=> .v (.int .i64 i))) y)
 (h0:w.heap[N]?=some (.cells #[u1,u2] 25 (0,0))) (h1:w.ownsRow 0 ty sz v n xs) (h2:w.heap[g]?=some (.cells (ns.map (Value.int .i64)).toArray 3 (0,0))) (hNg:N≠g) (hv:∀b,v.ownBlock=some b→b≠N∧b≠g):
 Cls ⟨P,tt,w,bs (hp3 N x y v n sz ty g xs (ns.map fun i=> .v (.int .i64 i))),nt, [],dfs, []⟩ (hp3 N x y v n sz ty g xs (ns.map fun i=> .v (.int .i64 i))) 3 w w:=by
 have hob:∀b,b∈ownB v→v.ownBlock=some b:=fun b hb=>by
  unfold ownB at hb;split at hb
  · simp only [List.mem_singleton]at hb;subst hb;rfl
  · cases hb
 have hnd:(ownB v).Nodup:=by
  unfold ownB;split<;>simp
 refine⟨Fx.refl _ _,Fx.refl _ _, ?_, ?_,fun b hb=> .inl hb,by simp [hp3], ?_⟩
 · intro k e hm;simp only [hp3,List.mem_cons,List.not_mem_nil,or_false,Prod.mk.injEq]at hm;rcases hm with⟨rfl,rfl⟩|⟨rfl,rfl⟩|⟨rfl,rfl⟩
   · exact⟨[u1,u2],⟨.inr hx, .inr hy,trivial⟩,h0⟩
   · exact h1
   · refine⟨ns.map (Value.int .i64), ?_,h2⟩;clear h2;generalize hp3 N x y v n sz ty g xs (ns.map fun i=> .v (.int .i64 i))=H at*;clear hx hy
     induction ns with
     |nil=>trivial
     |cons i ns ih=>exact⟨.inr rfl,ih⟩
 · show([N]++(ownB v++([g]++ []))).Nodup;rw [List.nodup_append,List.nodup_append];refine⟨by simp,⟨hnd,by simp,fun b hb c hc=> ?_⟩,fun b hb c hc=> ?_⟩
   · simp only [List.append_nil,List.mem_singleton]at hc;subst hc;exact(hv b (hob b hb)).2
   · simp only [List.mem_singleton]at hb;subst hb;rcases List.mem_append.1 hc with hc|hc
     · exact fun e=>(hv c (hob c hc)).1 e.symm
     · simp only [List.append_nil,List.mem_singleton]at hc;subst hc;exact hNg
 · intro k e hm;simp only [hp3,List.mem_cons,List.not_mem_nil,or_false,Prod.mk.injEq]at hm;rcases hm with⟨rfl,_⟩|⟨rfl,_⟩|⟨rfl,_⟩<;>omega
def lookAll (T:List (Nat×SV)):List (Nat×SV)→Prop
 | []=>True
 |(d,s)::r=>Sx.look T d=some s∧lookAll T r
def KV (B:List Nat) (n0 N:Nat) (x y:SV) (n sz ty g:Nat) (xs:List Value) (T0:List (Nat×SV)) (st:St):Prop:=
 ∃v' ns',v'≠ .slice none 0 0∧(∀q,q∈ownB v'→q∈B∨n0≤q)∧findE st.H 0=some (.blk N [x,y] 25)∧findE st.H 1=some (.row v' n xs sz ty)∧findE st.H 2=some (.blk g ns' 3)∧lookAll st.T T0
theorem lookAll_slot {X:Cx} {st:St} {a:Act} {w:World} (hr:Rel X st a w):∀ {T0:List (Nat×SV)},lookAll st.T T0→∀d s,(d,s)∈T0→s≠ .bad→slotv X a d=some (den st.H s)
 | [],_,_,_,h,_=>by cases h
 |(e,t)::r,h,d,s,hm,hb=>by
  rcases List.mem_cons.1 hm with hm|hm
  · simp only [Prod.mk.injEq]at hm;obtain⟨rfl,rfl⟩:=hm;exact(hr.T _ _ h.1).resolve_left hb
  · exact lookAll_slot hr h.2 d s hm hb
theorem two_cells {H:Hp} {x y:SV} {l:List Value} (h:cellsR H [x,y] l) (hx:x≠ .bad) (hy:y≠ .bad):l= [den H x,den H y]:=by
 match l,h with
 | [a,b],h=>
  rw [h.1.resolve_left hx,h.2.1.resolve_left hy]
theorem kv_world {X:Cx} {B:List Nat} {n0 N:Nat} {x y:SV} {n sz ty g:Nat} {xs:List Value} {T0:List (Nat×SV)} {st:St} {a:Act} {w:World} (h:KV B n0 N x y n sz ty g xs T0 st) (hr:Rel X st a w) (hx:x≠ .bad) (hy:y≠ .bad) (h25:ty≠25) (h3:ty≠3):
 ∃v',v'≠ .slice none 0 0∧w.heap[N]?=some (.cells #[den st.H x,den st.H y] 25 (0,0))∧w.ownsRow 0 ty sz v' n xs∧(∀q,v'.ownBlock=some q→(q∈B∨n0≤q)∧q≠N∧q≠g)∧rowVal st.H 1=v'∧Sx.bOf st.H 0=N:=by
 obtain⟨v',ns',hne,hB,f0,f1,f2,_⟩:=h;have e0:=hr.cls.own _ _ (findE_mem f0);have e1:=hr.cls.own _ _ (findE_mem f1);have e2:=hr.cls.own _ _ (findE_mem f2);obtain⟨l,hl,h0⟩:=e0;rw [two_cells hl hx hy]at h0;obtain⟨l2,_,h2⟩:=e2;refine⟨v',hne,h0,e1,fun q hq=> ?_,by unfold rowVal;rw [f1],by unfold Sx.bOf;rw [f0]⟩
 have hm:q∈ownB v':=by
  unfold Value.ownBlock at hq;split at hq
  · cases hq;simp [ownB]
  · cases hq
 refine⟨hB q hm, ?_, ?_⟩
 · rintro rfl;rcases e1.2 with⟨rfl,_⟩|⟨g',cap,cur,rfl,_,hgg,_⟩
   · simp [Value.ownBlock]at hq
   · simp only [Value.ownBlock,Option.some.injEq]at hq;subst hq;rw [h0]at hgg;cases hgg;exact h25 rfl
 · rintro rfl;rcases e1.2 with⟨rfl,_⟩|⟨g',cap,cur,rfl,_,hgg,_⟩
   · simp [Value.ownBlock]at hq
   · simp only [Value.ownBlock,Option.some.injEq]at hq;subst hq;rw [h2]at hgg;cases hgg;exact h3 rfl
theorem fx_i {B:List Nat} {w w':World} (h:Fx B w w') {i:Nat} (hi:i<w.heap.size) (hB:i∉B):w'.heap[i]?=w.heap[i]?:=h.block i hi fun b hb e=>hB (e▸hb)
theorem ReadI.addV2 {N:Nat} {w w2 w3:World} {lines:List ByteArray} {k:Nat} {b:TBylaw} {sv ss v':Value} {v:TVersion} {g:Nat} (h:ReadI N w w2 lines k b sv ss) (hf:Fx ([N]++(ownB sv++([g]++ []))) w2 w3) (hg:w.heap.size+4≤g∧N=w.heap.size) (hgs:ss.ownBlock≠some g)
 (h0:w3.heap[N]?=some (.cells #[v',ss] 25 (0,0))) (hown:w3.ownsRow 0 42 11 v' (b.Versions.length+1) (b.Versions.flatMap verC++verC v)) (hat:∀q,v'.ownBlock=some q→(q∈ [N]++(ownB sv++([g]++ []))∨w2.heap.size≤q)∧q≠N∧q≠g)
 (hk:k<lines.length) (hst:readL k ((bl lines).drop k) b=readL (k+1) ((bl lines).drop (k+1)) ⟨b.Versions++ [v],b.Streets⟩):ReadI N w w3 lines (k+1) ⟨b.Versions++ [v],b.Streets⟩ v' ss:=by
 have hsz:=h.sz;have hfs:=hf.size
 have hob:∀ {u:Value} {q:Nat},q∈ownB u→u.ownBlock=some q:=fun {u q} hq=>by
  unfold ownB at hq;split at hq
  · simp only [List.mem_singleton]at hq;subst hq;rfl
  · cases hq
 have hB:∀i,i∈ [N]++(ownB sv++([g]++ []))→i=N∨sv.ownBlock=some i∨i=g:=fun i hi=>by
  simp only [List.mem_append,List.mem_singleton,List.not_mem_nil,or_false]at hi;rcases hi with hi|hi|hi
  · exact .inl hi
  · exact .inr (.inl (hob hi))
  · exact .inr (.inr hi)
 have hkeep:∀i,i<w2.heap.size→i≠N→sv.ownBlock≠some i→i≠g→w3.heap[i]?=w2.heap[i]?:=fun i hi h1 h2 h3=>fx_i hf hi fun hm=>by
  rcases hB i hm with e|e|e
  · exact h1 e
  · exact h2 e
  · exact h3 e
 have hlow:∀i,i<N+4→i≠N→w3.heap[i]?=w2.heap[i]?:=fun i hi h1=>hkeep i (by omega) h1 (fun e=>by have:=(ownBlock_lt h.ov e).1;omega) (by omega)
 have hvq:∀q,v'.ownBlock=some q→sv.ownBlock=some q∨w2.heap.size≤q:=fun q hq=>by
  obtain⟨h1,h2,h3⟩:=hat q hq;rcases h1 with h1|h1
  · rcases hB q h1 with e|e|e
    · exact absurd e h2
    · exact .inl e
    · exact absurd e h3
  · exact .inr h1
 have hvb:∀q,v'.ownBlock=some q→N+4≤q:=fun q hq=>by
  rcases hvq q hq with e|e
  · exact(ownBlock_lt h.ov e).1
  · omega
 refine⟨h0, ?_, ?_, ?_, ?_, ?_, ?_, ?_, ?_, ?_, ?_,hk, ?_⟩
 · rw [hlow _ (by omega) (by omega)];exact h.h1
 · rw [hlow _ (by omega) (by omega)];exact h.h2
 · rw [hlow _ (by omega) (by omega)];exact h.hl
 · have e1:(b.Versions++ [v]).length=b.Versions.length+1:=by simp
   have e2:(b.Versions++ [v]).flatMap verC=b.Versions.flatMap verC++verC v:=by simp
   show World.ownsRow _ _ _ _ _ (b.Versions++ [v]).length ((b.Versions++ [v]).flatMap verC);rw [e1,e2];refine⟨hown.1, ?_⟩;rcases hown.2 with e|⟨q,cap,cur,rfl,_,r⟩
   · exact .inl e
   · exact .inr ⟨q,cap,cur,rfl,hvb q rfl,r⟩
 · refine⟨h.os.1, ?_⟩;rcases h.os.2 with e|⟨q,cap,cur,rfl,hq,hqq,r⟩
   · exact .inl e
   · refine .inr ⟨q,cap,cur,rfl,hq, ?_,r⟩;have hlt:=(Array.getElem?_eq_some_iff.1 hqq).1;rw [hkeep q hlt (by omega) (fun e=> ?_) (fun e=>hgs (by rw [←e];rfl))]
     · exact hqq
     · rcases h.ne with h1|h1|h1
       · rw [h1]at e;cases e
       · cases h1
       · exact h1 e
 · cases hs:ss.ownBlock with
   |none=>exact .inr (.inl rfl)
   |some x=>
    right;right;intro e;have hl:=ownBlock_lt h.os hs;rcases hvq x e with h1|h1
    · rcases h.ne with h2|h2|h2
      · rw [h2]at h1;cases h1
      · rw [h2]at hs;cases hs
      · exact h2 (h1.trans hs.symm)
    · omega
 · have hbel:=h.bel;refine⟨hf.os.trans hbel.os,hf.tape.trans hbel.tape,hf.output.trans hbel.output,by have:=hbel.size;omega,fun i hi=> ?_⟩;rw [hlow i (by omega) (by omega)];exact hbel.block i hi
 · omega
 · have:=h.cv;simp only [List.length_append,List.length_singleton];omega
 · exact Nat.le_succ_of_le h.cs
 · rw [h.rd,hst]
theorem ReadI.addS2 {N:Nat} {w w2 w3:World} {lines:List ByteArray} {k:Nat} {b:TBylaw} {sv ss v':Value} {v:TStreet} {g:Nat} (h:ReadI N w w2 lines k b sv ss) (hf:Fx ([N]++(ownB ss++([g]++ []))) w2 w3) (hg:w.heap.size+4≤g∧N=w.heap.size) (hgs:sv.ownBlock≠some g)
 (h0:w3.heap[N]?=some (.cells #[sv,v'] 25 (0,0))) (hown:w3.ownsRow 0 49 5 v' (b.Streets.length+1) (b.Streets.flatMap strC++strC v)) (hat:∀q,v'.ownBlock=some q→(q∈ [N]++(ownB ss++([g]++ []))∨w2.heap.size≤q)∧q≠N∧q≠g)
 (hk:k<lines.length) (hst:readL k ((bl lines).drop k) b=readL (k+1) ((bl lines).drop (k+1)) ⟨b.Versions,b.Streets++ [v]⟩):ReadI N w w3 lines (k+1) ⟨b.Versions,b.Streets++ [v]⟩ sv v':=by
 have hsz:=h.sz;have hfs:=hf.size
 have hob:∀ {u:Value} {q:Nat},q∈ownB u→u.ownBlock=some q:=fun {u q} hq=>by
  unfold ownB at hq;split at hq
  · simp only [List.mem_singleton]at hq;subst hq;rfl
  · cases hq
 have hB:∀i,i∈ [N]++(ownB ss++([g]++ []))→i=N∨ss.ownBlock=some i∨i=g:=fun i hi=>by
  simp only [List.mem_append,List.mem_singleton,List.not_mem_nil,or_false]at hi;rcases hi with hi|hi|hi
  · exact .inl hi
  · exact .inr (.inl (hob hi))
  · exact .inr (.inr hi)
 have hkeep:∀i,i<w2.heap.size→i≠N→ss.ownBlock≠some i→i≠g→w3.heap[i]?=w2.heap[i]?:=fun i hi h1 h2 h3=>fx_i hf hi fun hm=>by
  rcases hB i hm with e|e|e
  · exact h1 e
  · exact h2 e
  · exact h3 e
 have hlow:∀i,i<N+4→i≠N→w3.heap[i]?=w2.heap[i]?:=fun i hi h1=>hkeep i (by omega) h1 (fun e=>by have:=(ownBlock_lt h.os e).1;omega) (by omega)
 have hvq:∀q,v'.ownBlock=some q→ss.ownBlock=some q∨w2.heap.size≤q:=fun q hq=>by
  obtain⟨h1,h2,h3⟩:=hat q hq;rcases h1 with h1|h1
  · rcases hB q h1 with e|e|e
    · exact absurd e h2
    · exact .inl e
    · exact absurd e h3
  · exact .inr h1
 have hvb:∀q,v'.ownBlock=some q→N+4≤q:=fun q hq=>by
  rcases hvq q hq with e|e
  · exact(ownBlock_lt h.os e).1
  · omega
 refine⟨h0, ?_, ?_, ?_, ?_, ?_, ?_, ?_, ?_, ?_, ?_,hk, ?_⟩
 · rw [hlow _ (by omega) (by omega)];exact h.h1
 · rw [hlow _ (by omega) (by omega)];exact h.h2
 · rw [hlow _ (by omega) (by omega)];exact h.hl
 · refine⟨h.ov.1, ?_⟩;rcases h.ov.2 with e|⟨q,cap,cur,rfl,hq,hqq,r⟩
   · exact .inl e
   · refine .inr ⟨q,cap,cur,rfl,hq, ?_,r⟩;have hlt:=(Array.getElem?_eq_some_iff.1 hqq).1;rw [hkeep q hlt (by omega) (fun e=> ?_) (fun e=>hgs (by rw [←e];rfl))]
     · exact hqq
     · rcases h.ne with h1|h1|h1
       · cases h1
       · rw [h1]at e;cases e
       · exact h1 e.symm
 · have e1:(b.Streets++ [v]).length=b.Streets.length+1:=by simp
   have e2:(b.Streets++ [v]).flatMap strC=b.Streets.flatMap strC++strC v:=by simp
   show World.ownsRow _ _ _ _ _ (b.Streets++ [v]).length ((b.Streets++ [v]).flatMap strC);rw [e1,e2];refine⟨hown.1, ?_⟩;rcases hown.2 with e|⟨q,cap,cur,rfl,_,r⟩
   · exact .inl e
   · exact .inr ⟨q,cap,cur,rfl,hvb q rfl,r⟩
 · cases hs:sv.ownBlock with
   |none=>exact .inl rfl
   |some x=>
    right;right;intro e;have hl:=ownBlock_lt h.ov hs;rcases hvq x e.symm with h1|h1
    · rcases h.ne with h2|h2|h2
      · rw [h2]at hs;cases hs
      · rw [h2]at h1;cases h1
      · exact h2 (hs.trans h1.symm)
    · omega
 · have hbel:=h.bel;refine⟨hf.os.trans hbel.os,hf.tape.trans hbel.tape,hf.output.trans hbel.output,by have:=hbel.size;omega,fun i hi=> ?_⟩;rw [hlow i (by omega) (by omega)];exact hbel.block i hi
 · omega
 · exact Nat.le_succ_of_le h.cv
 · have:=h.cs;simp only [List.length_append,List.length_singleton];omega
 · rw [h.rd,hst]
def slotAll (X:Cx) (a:Act) (H:Hp):List (Nat×SV)→Prop
 | []=>True
 |(d,s)::r=>slotv X a d=some (den H s)∧slotAll X a H r
theorem slots_of {X:Cx} {a:Act} {H:Hp}:∀ {T0:List (Nat×SV)},slotAll X a H T0→∀d s,Sx.look T0 d=some s→s= .bad∨slotv X a d=some (den H s)
 | [],_,_,_,h=>by cases h
 |(e,t)::r,h,d,s,hl=>by
  unfold Sx.look at hl;split at hl
  · rename_i he;cases hl;have:=Nat.eq_of_beq_eq_true he;subst this;exact .inr h.1
  · exact slots_of h.2 d s hl
theorem arr_fun (t:Array Value) (n:Nat) (h:t.size=n):∃f:Nat→Value,t=((List.range n).map f).toArray∧∀d v,t[d]?=some v→f d=v:=by
 refine⟨fun i=>t[i]?.getD undef, ?_,fun d v hd=>by simp [hd]⟩;apply Array.ext
 · simp [h]
 · intro i h1 h2;simp [h1]
theorem slot_get {X:Cx} {a:Act} {d:Nat} {v:Value} (h:slotv X a d=some v) (hd:d<gbase):a.tmps[d]?=some v:=by
 unfold slotv at h;rwa [if_pos hd]at h
set_option maxRecDepth 100000
set_option maxHeartbeats 16000000
def linesB (s:ByteArray):List ByteArray:=(spl 10 s.data.toList).map YtejkiefdjcfapaaGreatDoor.bOf
def ReadR (w:World) (lines:List ByteArray) (i:Value) (wr:World):Prop:=∃(k:Nat) (b:TBylaw) (sv ss:Value),i= .int .i64 k∧ReadI w.heap.size w wr lines k b sv ss
theorem split_c (s:ByteArray) (hs:s.size≤8000) (w:World):Calls Tryz.prog 45 #[.string s, .string ⟨#[10]⟩] w fun e w'=>e= .returned (.slice (some ⟨w.heap.size,0,none⟩) (linesB s).length (linesB s).length)∧w'=w.alloc (.cells ((linesB s).map Value.string).toArray 9):=by
 have h:=split_one lay_split (by kernel_rfl) s 10 w (by omega);have hl:=Lib.splitB_all ⟨#[10]⟩ (Nat.le_refl 1) 0 _ s rfl;rw [splitB_spl]at h hl;have hl2:Lib.countB s ⟨#[10]⟩+1=(linesB s).length:=hl.symm;rw [hl2]at h;exact h
def WordsPost (x:ByteArray) (w:World) (e:Ending) (w':World):Prop:=Below w.heap.size w w'∧∃(a:Option Addr) (n c:Nat),e= .returned (.slice a n c)∧n=(wordsB x).length∧n≤c∧(n=0∨∃wb wo,a=some ⟨wb,wo,none⟩∧wb<w'.heap.size∧∀j,j<n→w'.cell? ⟨wb,wo+j,none⟩=((wordsB x).map Value.string)[j]?)
theorem repL_str_eq {ok:Nat→Prop} {w:World}:∀(l:List ByteArray) (xs:List Value),RepL ok w (l.flatMap fun(x:ByteArray)=> [.v (.string x)]) xs→xs=l.map Value.string
 | [], [],_=>rfl
 | [],_::_,h=>by simp [RepL]at h
 |_::_, [],h=>by simp [RepL]at h
 |x::l,y::xs,h=>by
  simp only [List.flatMap_cons,List.cons_append,List.nil_append,RepL,Rep]at h;rw [h.1.1,repL_str_eq l xs h.2];rfl
theorem words_c (x:ByteArray) (hx:x.size≤8000) (w:World) (hgi:GIW Tryz.prog w):Calls Tryz.prog 46 #[.string x] w (WordsPost x w):=by
 refine((d_bylaw_words x _ (words_eq x (by omega))).contract (w:=w) (vs:= [.string x]) (by simp [RepL,Rep,oneV]) hgi).mono fun e w' ⟨v,he,hr,hb⟩=>⟨hb, ?_⟩
 simp only [lD,Rep]at hr;obtain⟨a,c,rfl,h1,h2,h3,h4,h5⟩:=hr;refine⟨a,_,c,he,rfl,h1, ?_⟩;rcases h5 with h5|⟨wb,wo,xs,rfl,hok,hrep,hcell⟩
 · exact .inl (by omega)
 · refine .inr ⟨wb,wo,rfl,hok.2,fun j hj=> ?_⟩;rw [hcell j (by omega),repL_str_eq _ _ hrep]
theorem own_form {w:World} {base e size n:Nat} {v:Value} {xs:List Value} (h:w.ownsRow base e size v n xs):∃a c,v= .slice a n c:=by
 rcases h.2 with⟨rfl,rfl⟩|⟨g',cap,cur,rfl,_⟩
 · exact⟨_,_,rfl⟩
 · exact⟨_,_,rfl⟩
theorem asz (w:World) (o:Obj):(w.alloc o).heap.size=w.heap.size+1:=by simp
theorem setCell_self {w:World} {a j:Nat} {v:Value} {cs:Array Value} {T:TypeId} {fr:Nat×Nat} (h:w.heap[a]?=some (.cells cs T fr)) (hv:cs[j]?=some v):w.setCell ⟨a,j,none⟩ v=w:=by
 have e:(w.setCell ⟨a,j,none⟩ v).heap=w.heap:=by
  apply Array.ext_getElem?;intro i;by_cases hi:a=i
  · subst hi;rw [setCell_at h,h];congr 2;apply Array.ext_getElem?;intro k;by_cases hk:j=k
    · subst hk;obtain⟨hlt,hv2⟩:=Array.getElem?_eq_some_iff.1 hv;rw [Array.getElem?_setIfInBounds_self,if_pos hlt,hv]
    · rw [Array.getElem?_setIfInBounds_ne hk]
  · exact setCell_ne hi
 show({ w with heap:=(w.setCell ⟨a,j,none⟩ v).heap}:World)=w
 rw [e]
theorem words_size {x h:ByteArray} {t:List ByteArray} (hx:x.size≤8000) (hw:wordsB x=h::t):∀s∈t,s.size≤281474976710656:=by
 intro s hs;unfold wordsB at hw;split at hw
 · cases hw
 · have hm:s∈(wordsL x.data.toList).map YtejkiefdjcfapaaGreatDoor.bOf:=by rw [hw];exact List.mem_cons_of_mem _ hs
   obtain⟨d,hd,rfl⟩:=List.mem_map.1 hm;have:=spl_mem 32 _ d (List.mem_filter.1 hd).1;have hsz:x.data.toList.length=x.size:=(Lib.size_eq x).symm;show d.length≤_;omega
theorem words_many {x:ByteArray} (hx:x.size≤8000):(wordsB x).length≤8001:=by
 unfold wordsB;split
 · exact Nat.zero_le _
 · rw [List.length_map];have h1:(wordsL x.data.toList).length≤(spl 32 x.data.toList).length:=List.length_filter_le _ _;have h2:=(spl_len 32 x.data.toList).2;have hsz:x.data.toList.length=x.size:=(Lib.size_eq x).symm;omega
theorem nums_len {many:Nat} {l:List (List UInt8)} {ns:List Int} (h:numsW many l=some ns):ns.length=many:=by
 unfold numsW at h;split at h
 · rename_i hl;rw [←hl];clear hl
   induction l generalizing ns with
   |nil=>cases h;rfl
   |cons x l ih=>
    rw [List.mapM_cons]at h;cases hx:numW x with
    |none=>rw [hx]at h;cases h
    |some v=>
     rw [hx]at h;cases hl:l.mapM numW with
     |none=>rw [hl]at h;cases h
     |some m=>rw [hl]at h;cases h;simp [ih hl]
 · cases h
theorem read_any (s:ByteArray) (hs:s.size≤8000) (w:World) (hgi:GIW Tryz.prog w):Calls Tryz.prog 16 #[.string s] w (ReadPost (linesB s) w):=by
 have hll:(linesB s).length≤8001:=by
  have:=(spl_len 10 s.data.toList).2;have hsz:s.data.toList.length=s.size:=(Lib.size_eq s).symm;unfold linesB;rw [List.length_map];omega
 have hsp:=split_c s hs
 have hx:∀x∈linesB s,x.size≤8000:=fun x hx=>by
  obtain⟨d,hd,rfl⟩:=List.mem_map.1 hx;have:=spl_mem 10 _ d hd;have hsz:s.data.toList.length=s.size:=(Lib.size_eq s).symm;show d.length≤8000;omega
 have HX:=Lib.hid hx;generalize linesB s=lines at hll hsp HX⊢;clear hx
 go_enter_defers Tryz.func16,Tryz.ntmps16
 go_wp2_with fail
 refine(hsp _).mono ?_;rintro e w1 ⟨rfl,rfl⟩;clear hsp
 go_wp2
 go_loopw [14] (fun i wr=>ReadR w lines i wr) (fun i _=>lines.length-(RowKit.intOf i).toNat)
 case atStart=>
  have b1:=(Below.refl w.heap.size w).alloc (Nat.le_refl _) (.cells #[.slice none 0 0, .slice none 0 0] 25);have b2:=b1.alloc (by simp) (.cells #[.int .i64 0] 3);have b3:=b2.alloc (by simp only [asz];omega) (.cells #[.int .i64 0] 26);have b4:=b3.alloc (by simp only [asz];omega) (.cells (lines.map Value.string).toArray 9);refine⟨0,⟨[], []⟩, .slice none 0 0, .slice none 0 0,rfl, ?_, ?_, ?_, ?_,⟨rfl, .inl ⟨rfl,rfl⟩⟩,⟨rfl, .inl ⟨rfl,rfl⟩⟩, .inl rfl,b4,by simp,Nat.le_refl _,Nat.le_refl _,Nat.zero_le _,rfl⟩
  · rw [Lib.alloc_old _ _ _ (by simp only [asz];omega),Lib.alloc_old _ _ _ (by simp only [asz];omega),Lib.alloc_old _ _ _ (by simp)];exact(MapKept.heap_alloc w _).1
  · rw [Lib.alloc_old _ _ _ (by simp only [asz];omega),Lib.alloc_old _ _ _ (by simp)];have:=(MapKept.heap_alloc (w.alloc (.cells #[.slice none 0 0, .slice none 0 0] 25)) (.cells #[.int .i64 0] 3)).1;simpa using this
  · rw [Lib.alloc_old _ _ _ (by simp)];have:=(MapKept.heap_alloc ((w.alloc (.cells #[.slice none 0 0, .slice none 0 0] 25)).alloc (.cells #[.int .i64 0] 3)) (.cells #[.int .i64 0] 26)).1;simpa using this
  · have:=(MapKept.heap_alloc (((w.alloc (.cells #[.slice none 0 0, .slice none 0 0] 25)).alloc (.cells #[.int .i64 0] 3)).alloc (.cells #[.int .i64 0] 26)) (.cells (lines.map Value.string).toArray 9)).1;simpa using this
 case round=>
  obtain⟨k,b,sv,ss,rfl,hI⟩:=hrel;obtain⟨va,vc,rfl⟩:=own_form hI.ov;obtain⟨sa,sc,rfl⟩:=own_form hI.os;obtain⟨sv,Hsv⟩:∃sv,Hid (sv=Value.slice va b.Versions.length vc):=⟨_,Lib.hid rfl⟩;obtain⟨ss,Hss⟩:∃ss,Hid (ss=Value.slice sa b.Streets.length sc):=⟨_,Lib.hid rfl⟩;rw [←Hsv.out,←Hss.out]at hI;obtain⟨nv,Hnv⟩:∃nv,Hid (nv=b.Versions.length):=⟨_,Lib.hid rfl⟩;obtain⟨ns,Hns⟩:∃ns,Hid (ns=b.Streets.length):=⟨_,Lib.hid rfl⟩;rw [←Hnv.out]at Hsv;rw [←Hns.out]at Hss;have hgr:=GIW.below hgi hI.bel;by_cases hlt:k<lines.length
  · have hki:(k:Int)<(lines.length:Int):=by omega
    have hck:wr.cell? ⟨w.heap.size+1+1+1,k,none⟩=some (.string lines[k]):=by
     have h3:wr.heap[w.heap.size+1+1+1]?=_:=hI.hl;rw [Lib.cell_of_heap h3];simp [hlt]
    have hxs:=HX.out _ (List.getElem_mem hlt);have hstep:=step_words b lines[k];have hbad:=fun t (ht:TmpsOK w.heap.size t) w' hI' hs=>leaves_bad (t:=t) (w':=w') (sv:=sv) (ss:=ss) (b:=b) ht hI' hlt hs
    have hread:=read_at (b:=b) hlt;have HB:=Lib.hid hbad;have HS:=Lib.hid hstep;have HR:=Lib.hid hread;have HI:=Lib.hid hI;clear hbad hstep hread hI;generalize lines[k]=x at hck hxs HB HS HR
    go_wp2_with fail
    refine(words_c x hxs wr hgr).mono ?_;rintro e w1 ⟨hb1,a,n,c,rfl,hn,hnc,hcell⟩;cases hws:wordsB x with
    |nil=>
     rw [hws]at hn;have hn0:n=0:=hn;subst hn0;have hst:stepP b x.data.toList=some b:=by rw [HS.out,hws];rfl
     have R:ReadR w lines (.int .i64 ((k+1:Nat):Int)) w1:=by
      have h:=HI.out.below hb1;refine⟨k+1,b,sv,ss,rfl, { h with cv:=Nat.le_succ_of_le h.cv,cs:=Nat.le_succ_of_le h.cs,hk:=hlt,rd:= ?_}⟩
      rw [h.rd,HR.out,hst]
     clear hcell hst hws hn hnc
     go_wp2
     go_roundw
     case rel=>exact R
     case measure=>simp [RowKit.intOf];omega
    |cons hd t=>
     have hn1:n=t.length+1:=by rw [hn,hws];rfl
     obtain⟨wb,wo,rfl,hwb,hcw⟩:∃wb wo,a=some ⟨wb,wo,none⟩∧wb<w1.heap.size∧∀j,j<n→w1.cell? ⟨wb,wo+j,none⟩=((wordsB x).map Value.string)[j]?:=by
      rcases hcell with h0|h0
      · omega
      · exact h0
     have ch:w1.cell? ⟨wb,wo,none⟩=some (.string hd):=by
      have:=hcw 0 (by omega);rw [hws]at this;simpa using this
     have hct:∀j,j<t.length→w1.cell? ⟨wb,wo+1+j,none⟩=(t.map Value.string)[j]?:=fun j hj=>by
      have:=hcw (j+1) (by omega);rw [hws]at this;rw [show wo+1+j=wo+(j+1) by omega,this];simp
     have hts:=words_size hxs hws
     have htl:t.length≤281474976710656:=by
      have:=words_many hxs;rw [hws]at this;simp only [List.length_cons]at this;omega
     have hg1:=GIW.below hgr hb1;have htn:t.length=n-1:=by omega
     have hNa:Hid (∀many:Nat,1≤many∧many≤11→Calls Tryz.prog 47 #[.slice (some ⟨wb,wo+1,none⟩) (n-1) (c-1), .int .i64 (many:Int), .int .i64 ((k:Int)+1)] w1 (NumPost many ((k:Int)+1) t w1)):=Lib.hid fun many hm=>by
      have:=numbers_c many hm ((k:Int)+1) t wb (wo+1) (c-1) hts htl w1 hct hwb hg1;rw [htn]at this;exact this
     have hNb:Hid (c=1→∀many:Nat,1≤many∧many≤11→Calls Tryz.prog 47 #[.slice (some ⟨wb,wo,none⟩) (n-1) 0, .int .i64 (many:Int), .int .i64 ((k:Int)+1)] w1 (NumPost many ((k:Int)+1) t w1)):=Lib.hid fun hc1 many hm=>by
      have:=numbers_c many hm ((k:Int)+1) t wb wo 0 hts htl w1 (fun j hj=>by omega) hwb hg1;rw [htn]at this;exact this
     have hnz:¬((n:Int)=0):=by omega
     have hn0:(0:Int)<(n:Int):=by omega
     have hn2:(1:Int)≤(n:Int):=by omega
     have hnc2:(n:Int)≤(c:Int):=by omega
     have hst:=HS.out;rw [hws]at hst;clear hcell hcw hn hws hct hts hn1 htn hnc htl;by_cases hV:hd.data.toList=wV
     · have e1:(hd.toList==([118,101,114,115,105,111,110]:List UInt8))=true:=by
        rw [ByteArray.toList_eq,hV];rfl
       have hNa:=hNa.out 11 (by omega);have hNb:=fun h=>hNb.out h 11 (by omega)
       have e11:((11:Nat):Int)=11:=rfl;rw [e11]at hNa;simp only [e11]at hNb;have HNa:=Lib.hid hNa;have HNb:=Lib.hid hNb;clear hNa hNb;cases hnum:numsW 11 (bl t)with
       |none=>
        have hno:stepP b x.data.toList=none:=by
         rw [hst];show(if hd.data.toList=wV then(numsW 11 (bl t)).map _ else _)=none
         rw [if_pos hV,hnum];rfl
        have HNUM:=Lib.hid hnum;have HNO:=Lib.hid hno;clear hnum hst hV hno
        go_wp2_with fail
        · refine(HNb.out (by first|rfl|assumption)).mono ?_
          rintro e w2 ⟨hb2,hp⟩;rw [HNUM.out]at hp;subst hp;exact HB.out _ ⟨rfl,rfl,rfl⟩ _ ((HI.out.below hb1).below hb2) HNO.out
        · refine(HNa.out).mono ?_;rintro e w2 ⟨hb2,hp⟩;rw [HNUM.out]at hp;subst hp;exact HB.out _ ⟨rfl,rfl,rfl⟩ _ ((HI.out.below hb1).below hb2) HNO.out
       |some ms=>
        have hyes:stepP b x.data.toList=some ⟨b.Versions++ [verOf ms],b.Streets⟩:=by
         rw [hst];show(if hd.data.toList=wV then(numsW 11 (bl t)).map _ else _)=_
         rw [if_pos hV,hnum];rfl
        have hml:=nums_len hnum;have HNUM:=Lib.hid hnum;have HY:=Lib.hid hyes;clear hnum hyes hst hV
        match ms,hml with
        | [a0,a1,a2,a3,a4,a5,a6,a7,a8,a9,a10],_=>
        go_wp2_with fail
        · refine(HNb.out (by first|rfl|assumption)).mono ?_
          rintro e w2 ⟨hb2,hp⟩;rw [HNUM.out]at hp;obtain⟨g,hgg,rfl,hgc⟩:=hp;have hI2:=(HI.out.below hb1).below hb2;have d0:w2.cell? ⟨g,0,none⟩=some (.int .i64 a0):=by rw [Lib.cell_of_heap hgc];rfl
          have d1:w2.cell? ⟨g,1,none⟩=some (.int .i64 a1):=by rw [Lib.cell_of_heap hgc];rfl
          have d2:w2.cell? ⟨g,2,none⟩=some (.int .i64 a2):=by rw [Lib.cell_of_heap hgc];rfl
          have d3:w2.cell? ⟨g,3,none⟩=some (.int .i64 a3):=by rw [Lib.cell_of_heap hgc];rfl
          have d4:w2.cell? ⟨g,4,none⟩=some (.int .i64 a4):=by rw [Lib.cell_of_heap hgc];rfl
          have d5:w2.cell? ⟨g,5,none⟩=some (.int .i64 a5):=by rw [Lib.cell_of_heap hgc];rfl
          have d6:w2.cell? ⟨g,6,none⟩=some (.int .i64 a6):=by rw [Lib.cell_of_heap hgc];rfl
          have d7:w2.cell? ⟨g,7,none⟩=some (.int .i64 a7):=by rw [Lib.cell_of_heap hgc];rfl
          have d8:w2.cell? ⟨g,8,none⟩=some (.int .i64 a8):=by rw [Lib.cell_of_heap hgc];rfl
          have d9:w2.cell? ⟨g,9,none⟩=some (.int .i64 a9):=by rw [Lib.cell_of_heap hgc];rfl
          have d10:w2.cell? ⟨g,10,none⟩=some (.int .i64 a10):=by rw [Lib.cell_of_heap hgc];rfl
          have c0:w2.cell? ⟨w.heap.size,0,none⟩=some (.slice va nv vc):=by rw [Lib.cell_of_heap hI2.h0,Hsv.out];rfl
          have f0:w2.frozen? ⟨w.heap.size,0,none⟩=false:=Lib.frozen_of_heap hI2.h0 0;have hown:=hI2.ov;rw [Hsv.out,←Hnv.out]at hown;have hgw2:g<w2.heap.size:=(Array.getElem?_eq_some_iff.1 hgc).1
          have ag:(Value.slice va nv vc).ownBlock≠some g:=fun e=>by
           have h8:=HI.out.below hb1;have h9:=h8.ov;rw [Hsv.out]at h9;have:=(ownBlock_lt h9 e).2;omega
          have an:(Value.slice va nv vc).ownBlock≠some w.heap.size:=fun e=>by have:=(ownBlock_lt hown e).1;omega
          have hnw:w.heap.size<w2.heap.size:=by have:=hI2.sz;omega
          have hcv:=hI2.cv;rw [←Hnv.out]at hcv;have HI2:=Lib.hid hI2;have HGC:=Lib.hid hgc;clear hI2 hgc;have hb63:nv+1≤maxLen:=by unfold maxLen;omega
          have hbb:(nv+1)*88≤140737488355328:=by omega
          have hN4:w.heap.size+4≤g:=by have:=HI.out.sz;have:=hb1.size;omega
          have hNg:w.heap.size≠g:=by omega
          have hog:(Value.slice sa ns sc).ownBlock≠some g:=fun e=>by
           have h9:=(HI.out.below hb1).os;rw [Hss.out]at h9;have:=(ownBlock_lt h9 e).2;omega
          have hcl:=cls3 (P:=Tryz.prog) (tt:=tt) (nt:=Tryz.f16.ntmps) (dfs:= [dfr w.heap.size]) (N:=w.heap.size) (x:=(.row 1)) (y:=(.v (.slice sa ns sc))) (v:= .slice va nv vc) (n:=nv) (sz:=11) (ty:=42) (g:=g) (xs:=b.Versions.flatMap verC) (ns:= [a0,a1,a2,a3,a4,a5,a6,a7,a8,a9,a10]) (w:=w2) (u1:= .slice va nv vc) (u2:= .slice sa ns sc) rfl rfl (by rw [HI2.out.h0,Hsv.out,Hss.out]) ⟨hown.1,hown.2.imp id fun⟨g,cap,cur,h1,h2,h3⟩=>⟨g,cap,cur,h1,Nat.zero_le _,h3⟩⟩ HGC.out hNg (fun q hq=>⟨fun e=>an (e▸hq),fun e=>ag (e▸hq)⟩);have hI2:=HI2.out;rw [Hsv.out,Hss.out]at hI2;have hrd:readL k ((bl lines).drop k) b=readL (k+1) ((bl lines).drop (k+1)) ⟨b.Versions++ [verOf [a0,a1,a2,a3,a4,a5,a6,a7,a8,a9,a10]],b.Streets⟩:=by rw [HR.out,HY.out]
          have hfin:=fun w3 v' h1 h2 h3 h4=>hI2.addV2 (w3:=w3) (v':=v') (g:=g) h1 ⟨hN4,rfl⟩ hog h2 h3 h4 hlt hrd
          have HF:=Lib.hid hfin;clear hI2 hrd hfin
          go_wp2
          obtain⟨HP,hHP⟩:∃HP,HP=hp3 w.heap.size (.row 1) (.v (.slice sa ns sc)) (.slice va nv vc) nv 11 42 g (b.Versions.flatMap verC) ([a0,a1,a2,a3,a4,a5,a6,a7,a8,a9,a10].map fun i=> .v (.int .i64 i)):=⟨_,rfl⟩;rw [←hHP]at hcl;refine reg_sx (X:=⟨Tryz.prog,tt,w2,bs HP,Tryz.f16.ntmps, [], [dfr w.heap.size], []⟩) pok (T:=(8, .osl 2 0 11 11):: [(0, .v (.string s)),(1, .v undef),(2, .own 0 0),(3, .v (.pointer (some ⟨w.heap.size+1,0,none⟩))),(4, .v (.pointer (some ⟨w.heap.size+1+1,0,none⟩))),(10, .v (.func (.func 44) #[] #[.pointer (some ⟨w.heap.size,0,none⟩), .pointer (some ⟨w.heap.size+1,0,none⟩), .pointer (some ⟨w.heap.size+1+1,0,none⟩)])),(11, .v (.string s)),(12, .v (.slice (some ⟨w.heap.size+1+1+1,0,none⟩) lines.length lines.length)),(13, .v (.int .i64 lines.length)),(14, .v (.int .i64 k)),(108, .v undef)]) (H:=HP) (nk:=3) (p:=(getP pl16 11).getD .nil) (K:=KV (bs HP) w2.heap.size w.heap.size (.row 1) (.v (.slice sa ns sc)) (nv+1) 11 42 g (b.Versions.flatMap verC++ [.int .i64 a0, .int .i64 a1, .int .i64 a2, .int .i64 a3, .int .i64 a4, .int .i64 a5, .int .i64 a6, .int .i64 a7, .int .i64 a8, .int .i64 a9, .int .i64 a10]) ([(0, .v (.string s)),(1, .v undef),(2, .own 0 0),(3, .v (.pointer (some ⟨w.heap.size+1,0,none⟩))),(4, .v (.pointer (some ⟨w.heap.size+1+1,0,none⟩))),(10, .v (.func (.func 44) #[] #[.pointer (some ⟨w.heap.size,0,none⟩), .pointer (some ⟨w.heap.size+1,0,none⟩), .pointer (some ⟨w.heap.size+1+1,0,none⟩)])),(11, .v (.string s)),(12, .v (.slice (some ⟨w.heap.size+1+1+1,0,none⟩) lines.length lines.length)),(13, .v (.int .i64 lines.length)),(14, .v (.int .i64 k)),(108, .v undef)])) ⟨⟨rfl,Nat.le_of_ble_eq_true rfl⟩, ?hT,rfl,hcl,Nat.le_refl _,by simp⟩ (by kernel_rfl) ?h ?hQ
          case hT=>
           intro d q hd;subst hHP;exact slots_of (T0:=(8, .osl 2 0 11 11):: [(0, .v (.string s)),(1, .v undef),(2, .own 0 0),(3, .v (.pointer (some ⟨w.heap.size+1,0,none⟩))),(4, .v (.pointer (some ⟨w.heap.size+1+1,0,none⟩))),(10, .v (.func (.func 44) #[] #[.pointer (some ⟨w.heap.size,0,none⟩), .pointer (some ⟨w.heap.size+1,0,none⟩), .pointer (some ⟨w.heap.size+1+1,0,none⟩)])),(11, .v (.string s)),(12, .v (.slice (some ⟨w.heap.size+1+1+1,0,none⟩) lines.length lines.length)),(13, .v (.int .i64 lines.length)),(14, .v (.int .i64 k)),(108, .v undef)]) ⟨rfl,rfl,rfl,rfl,rfl,rfl,rfl,rfl,rfl,rfl,rfl,rfl,trivial⟩ d q hd
          case h=>
           subst hHP;refine⟨by decide, ?_⟩;refine⟨_,rfl, ?_⟩;refine⟨by decide, ?_⟩;refine⟨_,rfl, ?_⟩;refine⟨by decide, ?_⟩;refine⟨_,rfl, ?_⟩;refine⟨by decide, ?_⟩;refine⟨_,rfl, ?_⟩;refine⟨by decide, ?_⟩;refine⟨_,rfl, ?_⟩;refine⟨by decide, ?_⟩;refine⟨_,rfl, ?_⟩;refine⟨by decide, ?_⟩;refine⟨_,rfl, ?_⟩;refine⟨by decide, ?_⟩;refine⟨_,rfl, ?_⟩;refine⟨by decide, ?_⟩;refine⟨_,rfl, ?_⟩;refine⟨by decide, ?_⟩;refine⟨_,rfl, ?_⟩;refine⟨by decide, ?_⟩;refine⟨_,rfl, ?_⟩;refine Or.inl fun q hq1 hq2=> ?_
           refine AppVC.mk ⟨1,nv,1, .slice va nv vc,b.Versions.flatMap verC, [.int .i64 a0, .int .i64 a1, .int .i64 a2, .int .i64 a3, .int .i64 a4, .int .i64 a5, .int .i64 a6, .int .i64 a7, .int .i64 a8, .int .i64 a9, .int .i64 a10],⟨by decide,⟨rfl,_,rfl,rfl,rfl⟩,hbb,hb63⟩, .inr (.inl ⟨rfl,rfl,fun v' w3 hv' hb' hf=> ?_⟩)⟩;exact⟨v',_,fun e=>by have:=(hv'.1 e).2;omega,fun r hr=>(hb' r hr).elim (fun hm=>(List.mem_cons.1 hm).elim (fun e=> .inr (e▸hq1)) .inl) .inr,rfl,rfl,rfl,rfl,rfl,rfl,rfl,rfl,rfl,rfl,rfl,rfl,rfl,rfl,trivial⟩
          case hQ=>
           subst hHP;intro st' a' w3 hK hl;obtain⟨_,_,_,_,_,_,_,hlk⟩:=id hK;have hsl:=lookAll_slot hl.rel hlk;obtain⟨v',hne,h0,h1,hq,hrv,hbo⟩:=kv_world hK hl.rel (by simp) (by simp) (by decide) (by decide);have h0':w3.heap[w.heap.size]?=some (.cells #[v', .slice sa ns sc] 25 (0,0)):=by rw [←hrv];exact h0
           rw [Hnv.out]at h1;have hI3:=HF.out w3 v' hl.fx h0' h1 hq;have s0:=hsl 0 (.v (.string s)) (by simp) (by simp);have s1:=hsl 1 (.v undef) (by simp) (by simp);have s2:=hsl 2 (.own 0 0) (by simp) (by simp);have s3:=hsl 3 (.v (.pointer (some ⟨w.heap.size+1,0,none⟩))) (by simp) (by simp);have s4:=hsl 4 (.v (.pointer (some ⟨w.heap.size+1+1,0,none⟩))) (by simp) (by simp);have s10:=hsl 10 (.v (.func (.func 44) #[] #[.pointer (some ⟨w.heap.size,0,none⟩), .pointer (some ⟨w.heap.size+1,0,none⟩), .pointer (some ⟨w.heap.size+1+1,0,none⟩)])) (by simp) (by simp);have s11:=hsl 11 (.v (.string s)) (by simp) (by simp);have s12:=hsl 12 (.v (.slice (some ⟨w.heap.size+1+1+1,0,none⟩) lines.length lines.length)) (by simp) (by simp);have s13:=hsl 13 (.v (.int .i64 lines.length)) (by simp) (by simp);have s14:=hsl 14 (.v (.int .i64 k)) (by simp) (by simp);have s108:=hsl 108 (.v undef) (by simp) (by simp);simp only [den,hbo]at s2;have hsz:a'.tmps.size=109:=hl.rel.size.1;have hdf:a'.defers= [dfr w.heap.size]:=hl.rel.dfs;clear hl hK hlk hsl h0 h0' h1 hq hrv hbo hcl;obtain⟨tm,dl⟩:=a';obtain⟨f,hf,hfv⟩:=arr_fun tm 109 hsz;have hfl:tm=(f 0::f 1::f 2::f 3::f 4::f 5::f 6::f 7::f 8::f 9::f 10::f 11::f 12::f 13::f 14::f 15::f 16::f 17::f 18::f 19::f 20::f 21::f 22::f 23::f 24::f 25::f 26::f 27::f 28::f 29::f 30::f 31::f 32::f 33::f 34::f 35::f 36::f 37::f 38::f 39::f 40::f 41::f 42::f 43::f 44::f 45::f 46::f 47::f 48::f 49::f 50::f 51::f 52::f 53::f 54::f 55::f 56::f 57::f 58::f 59::f 60::f 61::f 62::f 63::f 64::f 65::f 66::f 67::f 68::f 69::f 70::f 71::f 72::f 73::f 74::f 75::f 76::f 77::f 78::f 79::f 80::f 81::f 82::f 83::f 84::f 85::f 86::f 87::f 88::f 89::f 90::f 91::f 92::f 93::f 94::f 95::f 96::f 97::f 98::f 99::f 100::f 101::f 102::f 103::f 104::f 105::f 106::f 107::f 108:: []).toArray:=hf;obtain rfl:dl= [{ target:= .fn (.func 44) #[.pointer (some ⟨w.heap.size,0,none⟩), .pointer (some ⟨w.heap.size+1,0,none⟩), .pointer (some ⟨w.heap.size+1+1,0,none⟩)],args:= #[]}]:=hdf;have r0:f 0= .string s:=hfv 0 _ (slot_get s0 (by decide));have r1:f 1=undef:=hfv 1 _ (slot_get s1 (by decide));have r2:f 2= .pointer (some ⟨w.heap.size,0,none⟩):=hfv 2 _ (slot_get s2 (by decide));have r3:f 3= .pointer (some ⟨w.heap.size+1,0,none⟩):=hfv 3 _ (slot_get s3 (by decide));have r4:f 4= .pointer (some ⟨w.heap.size+1+1,0,none⟩):=hfv 4 _ (slot_get s4 (by decide));have r10:f 10= .func (.func 44) #[] #[.pointer (some ⟨w.heap.size,0,none⟩), .pointer (some ⟨w.heap.size+1,0,none⟩), .pointer (some ⟨w.heap.size+1+1,0,none⟩)]:=hfv 10 _ (slot_get s10 (by decide));have r11:f 11= .string s:=hfv 11 _ (slot_get s11 (by decide));have r12:f 12= .slice (some ⟨w.heap.size+1+1+1,0,none⟩) lines.length lines.length:=hfv 12 _ (slot_get s12 (by decide));have r13:f 13= .int .i64 lines.length:=hfv 13 _ (slot_get s13 (by decide));have r14:f 14= .int .i64 k:=hfv 14 _ (slot_get s14 (by decide));have r108:f 108=undef:=hfv 108 _ (slot_get s108 (by decide));rw [r0,r1,r2,r3,r4,r10,r11,r12,r13,r14,r108]at hfl;rw [hfl];clear hf hfl hfv hsz s0 s1 s2 s3 s4 s10 s11 s12 s13 s14 s108 r0 r1 r2 r3 r4 r10 r11 r12 r13 r14 r108;have R:ReadR w lines (.int .i64 ((k+1:Nat):Int)) w3:=⟨k+1,_,_,_,rfl,hI3⟩;clear hI3 d0 d1 d2 d3 d4 d5 d6 d7 d8 d9 d10 c0 f0 hown HF HI HI2 HGC
           go_wp2
           refine⟨?_, ?measure⟩
           (repeat apply Exists.intro)
           refine⟨?rel,rfl⟩
           case rel=>exact R
           case measure=>simp [RowKit.intOf];omega
        · refine(HNa.out).mono ?_;rintro e w2 ⟨hb2,hp⟩;rw [HNUM.out]at hp;obtain⟨g,hgg,rfl,hgc⟩:=hp;have hI2:=(HI.out.below hb1).below hb2;have d0:w2.cell? ⟨g,0,none⟩=some (.int .i64 a0):=by rw [Lib.cell_of_heap hgc];rfl
          have d1:w2.cell? ⟨g,1,none⟩=some (.int .i64 a1):=by rw [Lib.cell_of_heap hgc];rfl
          have d2:w2.cell? ⟨g,2,none⟩=some (.int .i64 a2):=by rw [Lib.cell_of_heap hgc];rfl
          have d3:w2.cell? ⟨g,3,none⟩=some (.int .i64 a3):=by rw [Lib.cell_of_heap hgc];rfl
          have d4:w2.cell? ⟨g,4,none⟩=some (.int .i64 a4):=by rw [Lib.cell_of_heap hgc];rfl
          have d5:w2.cell? ⟨g,5,none⟩=some (.int .i64 a5):=by rw [Lib.cell_of_heap hgc];rfl
          have d6:w2.cell? ⟨g,6,none⟩=some (.int .i64 a6):=by rw [Lib.cell_of_heap hgc];rfl
          have d7:w2.cell? ⟨g,7,none⟩=some (.int .i64 a7):=by rw [Lib.cell_of_heap hgc];rfl
          have d8:w2.cell? ⟨g,8,none⟩=some (.int .i64 a8):=by rw [Lib.cell_of_heap hgc];rfl
          have d9:w2.cell? ⟨g,9,none⟩=some (.int .i64 a9):=by rw [Lib.cell_of_heap hgc];rfl
          have d10:w2.cell? ⟨g,10,none⟩=some (.int .i64 a10):=by rw [Lib.cell_of_heap hgc];rfl
          have c0:w2.cell? ⟨w.heap.size,0,none⟩=some (.slice va nv vc):=by rw [Lib.cell_of_heap hI2.h0,Hsv.out];rfl
          have f0:w2.frozen? ⟨w.heap.size,0,none⟩=false:=Lib.frozen_of_heap hI2.h0 0;have hown:=hI2.ov;rw [Hsv.out,←Hnv.out]at hown;have hgw2:g<w2.heap.size:=(Array.getElem?_eq_some_iff.1 hgc).1
          have ag:(Value.slice va nv vc).ownBlock≠some g:=fun e=>by
           have h8:=HI.out.below hb1;have h9:=h8.ov;rw [Hsv.out]at h9;have:=(ownBlock_lt h9 e).2;omega
          have an:(Value.slice va nv vc).ownBlock≠some w.heap.size:=fun e=>by have:=(ownBlock_lt hown e).1;omega
          have hnw:w.heap.size<w2.heap.size:=by have:=hI2.sz;omega
          have hcv:=hI2.cv;rw [←Hnv.out]at hcv;have HI2:=Lib.hid hI2;have HGC:=Lib.hid hgc;clear hI2 hgc;have hb63:nv+1≤maxLen:=by unfold maxLen;omega
          have hbb:(nv+1)*88≤140737488355328:=by omega
          have hN4:w.heap.size+4≤g:=by have:=HI.out.sz;have:=hb1.size;omega
          have hNg:w.heap.size≠g:=by omega
          have hog:(Value.slice sa ns sc).ownBlock≠some g:=fun e=>by
           have h9:=(HI.out.below hb1).os;rw [Hss.out]at h9;have:=(ownBlock_lt h9 e).2;omega
          have hcl:=cls3 (P:=Tryz.prog) (tt:=tt) (nt:=Tryz.f16.ntmps) (dfs:= [dfr w.heap.size]) (N:=w.heap.size) (x:=(.row 1)) (y:=(.v (.slice sa ns sc))) (v:= .slice va nv vc) (n:=nv) (sz:=11) (ty:=42) (g:=g) (xs:=b.Versions.flatMap verC) (ns:= [a0,a1,a2,a3,a4,a5,a6,a7,a8,a9,a10]) (w:=w2) (u1:= .slice va nv vc) (u2:= .slice sa ns sc) rfl rfl (by rw [HI2.out.h0,Hsv.out,Hss.out]) ⟨hown.1,hown.2.imp id fun⟨g,cap,cur,h1,h2,h3⟩=>⟨g,cap,cur,h1,Nat.zero_le _,h3⟩⟩ HGC.out hNg (fun q hq=>⟨fun e=>an (e▸hq),fun e=>ag (e▸hq)⟩);have hI2:=HI2.out;rw [Hsv.out,Hss.out]at hI2;have hrd:readL k ((bl lines).drop k) b=readL (k+1) ((bl lines).drop (k+1)) ⟨b.Versions++ [verOf [a0,a1,a2,a3,a4,a5,a6,a7,a8,a9,a10]],b.Streets⟩:=by rw [HR.out,HY.out]
          have hfin:=fun w3 v' h1 h2 h3 h4=>hI2.addV2 (w3:=w3) (v':=v') (g:=g) h1 ⟨hN4,rfl⟩ hog h2 h3 h4 hlt hrd
          have HF:=Lib.hid hfin;clear hI2 hrd hfin
          go_wp2
          obtain⟨HP,hHP⟩:∃HP,HP=hp3 w.heap.size (.row 1) (.v (.slice sa ns sc)) (.slice va nv vc) nv 11 42 g (b.Versions.flatMap verC) ([a0,a1,a2,a3,a4,a5,a6,a7,a8,a9,a10].map fun i=> .v (.int .i64 i)):=⟨_,rfl⟩;rw [←hHP]at hcl;refine reg_sx (X:=⟨Tryz.prog,tt,w2,bs HP,Tryz.f16.ntmps, [], [dfr w.heap.size], []⟩) pok (T:=(8, .osl 2 0 11 11):: [(0, .v (.string s)),(1, .v undef),(2, .own 0 0),(3, .v (.pointer (some ⟨w.heap.size+1,0,none⟩))),(4, .v (.pointer (some ⟨w.heap.size+1+1,0,none⟩))),(10, .v (.func (.func 44) #[] #[.pointer (some ⟨w.heap.size,0,none⟩), .pointer (some ⟨w.heap.size+1,0,none⟩), .pointer (some ⟨w.heap.size+1+1,0,none⟩)])),(11, .v (.string s)),(12, .v (.slice (some ⟨w.heap.size+1+1+1,0,none⟩) lines.length lines.length)),(13, .v (.int .i64 lines.length)),(14, .v (.int .i64 k)),(108, .v undef)]) (H:=HP) (nk:=3) (p:=(getP pl16 11).getD .nil) (K:=KV (bs HP) w2.heap.size w.heap.size (.row 1) (.v (.slice sa ns sc)) (nv+1) 11 42 g (b.Versions.flatMap verC++ [.int .i64 a0, .int .i64 a1, .int .i64 a2, .int .i64 a3, .int .i64 a4, .int .i64 a5, .int .i64 a6, .int .i64 a7, .int .i64 a8, .int .i64 a9, .int .i64 a10]) ([(0, .v (.string s)),(1, .v undef),(2, .own 0 0),(3, .v (.pointer (some ⟨w.heap.size+1,0,none⟩))),(4, .v (.pointer (some ⟨w.heap.size+1+1,0,none⟩))),(10, .v (.func (.func 44) #[] #[.pointer (some ⟨w.heap.size,0,none⟩), .pointer (some ⟨w.heap.size+1,0,none⟩), .pointer (some ⟨w.heap.size+1+1,0,none⟩)])),(11, .v (.string s)),(12, .v (.slice (some ⟨w.heap.size+1+1+1,0,none⟩) lines.length lines.length)),(13, .v (.int .i64 lines.length)),(14, .v (.int .i64 k)),(108, .v undef)])) ⟨⟨rfl,Nat.le_of_ble_eq_true rfl⟩, ?hT,rfl,hcl,Nat.le_refl _,by simp⟩ (by kernel_rfl) ?h ?hQ
          case hT=>
           intro d q hd;subst hHP;exact slots_of (T0:=(8, .osl 2 0 11 11):: [(0, .v (.string s)),(1, .v undef),(2, .own 0 0),(3, .v (.pointer (some ⟨w.heap.size+1,0,none⟩))),(4, .v (.pointer (some ⟨w.heap.size+1+1,0,none⟩))),(10, .v (.func (.func 44) #[] #[.pointer (some ⟨w.heap.size,0,none⟩), .pointer (some ⟨w.heap.size+1,0,none⟩), .pointer (some ⟨w.heap.size+1+1,0,none⟩)])),(11, .v (.string s)),(12, .v (.slice (some ⟨w.heap.size+1+1+1,0,none⟩) lines.length lines.length)),(13, .v (.int .i64 lines.length)),(14, .v (.int .i64 k)),(108, .v undef)]) ⟨rfl,rfl,rfl,rfl,rfl,rfl,rfl,rfl,rfl,rfl,rfl,rfl,trivial⟩ d q hd
          case h=>
           subst hHP;refine⟨by decide, ?_⟩;refine⟨_,rfl, ?_⟩;refine⟨by decide, ?_⟩;refine⟨_,rfl, ?_⟩;refine⟨by decide, ?_⟩;refine⟨_,rfl, ?_⟩;refine⟨by decide, ?_⟩;refine⟨_,rfl, ?_⟩;refine⟨by decide, ?_⟩;refine⟨_,rfl, ?_⟩;refine⟨by decide, ?_⟩;refine⟨_,rfl, ?_⟩;refine⟨by decide, ?_⟩;refine⟨_,rfl, ?_⟩;refine⟨by decide, ?_⟩;refine⟨_,rfl, ?_⟩;refine⟨by decide, ?_⟩;refine⟨_,rfl, ?_⟩;refine⟨by decide, ?_⟩;refine⟨_,rfl, ?_⟩;refine⟨by decide, ?_⟩;refine⟨_,rfl, ?_⟩;refine Or.inl fun q hq1 hq2=> ?_
           refine AppVC.mk ⟨1,nv,1, .slice va nv vc,b.Versions.flatMap verC, [.int .i64 a0, .int .i64 a1, .int .i64 a2, .int .i64 a3, .int .i64 a4, .int .i64 a5, .int .i64 a6, .int .i64 a7, .int .i64 a8, .int .i64 a9, .int .i64 a10],⟨by decide,⟨rfl,_,rfl,rfl,rfl⟩,hbb,hb63⟩, .inr (.inl ⟨rfl,rfl,fun v' w3 hv' hb' hf=> ?_⟩)⟩;exact⟨v',_,fun e=>by have:=(hv'.1 e).2;omega,fun r hr=>(hb' r hr).elim (fun hm=>(List.mem_cons.1 hm).elim (fun e=> .inr (e▸hq1)) .inl) .inr,rfl,rfl,rfl,rfl,rfl,rfl,rfl,rfl,rfl,rfl,rfl,rfl,rfl,rfl,trivial⟩
          case hQ=>
           subst hHP;intro st' a' w3 hK hl;obtain⟨_,_,_,_,_,_,_,hlk⟩:=id hK;have hsl:=lookAll_slot hl.rel hlk;obtain⟨v',hne,h0,h1,hq,hrv,hbo⟩:=kv_world hK hl.rel (by simp) (by simp) (by decide) (by decide);have h0':w3.heap[w.heap.size]?=some (.cells #[v', .slice sa ns sc] 25 (0,0)):=by rw [←hrv];exact h0
           rw [Hnv.out]at h1;have hI3:=HF.out w3 v' hl.fx h0' h1 hq;have s0:=hsl 0 (.v (.string s)) (by simp) (by simp);have s1:=hsl 1 (.v undef) (by simp) (by simp);have s2:=hsl 2 (.own 0 0) (by simp) (by simp);have s3:=hsl 3 (.v (.pointer (some ⟨w.heap.size+1,0,none⟩))) (by simp) (by simp);have s4:=hsl 4 (.v (.pointer (some ⟨w.heap.size+1+1,0,none⟩))) (by simp) (by simp);have s10:=hsl 10 (.v (.func (.func 44) #[] #[.pointer (some ⟨w.heap.size,0,none⟩), .pointer (some ⟨w.heap.size+1,0,none⟩), .pointer (some ⟨w.heap.size+1+1,0,none⟩)])) (by simp) (by simp);have s11:=hsl 11 (.v (.string s)) (by simp) (by simp);have s12:=hsl 12 (.v (.slice (some ⟨w.heap.size+1+1+1,0,none⟩) lines.length lines.length)) (by simp) (by simp);have s13:=hsl 13 (.v (.int .i64 lines.length)) (by simp) (by simp);have s14:=hsl 14 (.v (.int .i64 k)) (by simp) (by simp);have s108:=hsl 108 (.v undef) (by simp) (by simp);simp only [den,hbo]at s2;have hsz:a'.tmps.size=109:=hl.rel.size.1;have hdf:a'.defers= [dfr w.heap.size]:=hl.rel.dfs;clear hl hK hlk hsl h0 h0' h1 hq hrv hbo hcl;obtain⟨tm,dl⟩:=a';obtain⟨f,hf,hfv⟩:=arr_fun tm 109 hsz;have hfl:tm=(f 0::f 1::f 2::f 3::f 4::f 5::f 6::f 7::f 8::f 9::f 10::f 11::f 12::f 13::f 14::f 15::f 16::f 17::f 18::f 19::f 20::f 21::f 22::f 23::f 24::f 25::f 26::f 27::f 28::f 29::f 30::f 31::f 32::f 33::f 34::f 35::f 36::f 37::f 38::f 39::f 40::f 41::f 42::f 43::f 44::f 45::f 46::f 47::f 48::f 49::f 50::f 51::f 52::f 53::f 54::f 55::f 56::f 57::f 58::f 59::f 60::f 61::f 62::f 63::f 64::f 65::f 66::f 67::f 68::f 69::f 70::f 71::f 72::f 73::f 74::f 75::f 76::f 77::f 78::f 79::f 80::f 81::f 82::f 83::f 84::f 85::f 86::f 87::f 88::f 89::f 90::f 91::f 92::f 93::f 94::f 95::f 96::f 97::f 98::f 99::f 100::f 101::f 102::f 103::f 104::f 105::f 106::f 107::f 108:: []).toArray:=hf;obtain rfl:dl= [{ target:= .fn (.func 44) #[.pointer (some ⟨w.heap.size,0,none⟩), .pointer (some ⟨w.heap.size+1,0,none⟩), .pointer (some ⟨w.heap.size+1+1,0,none⟩)],args:= #[]}]:=hdf;have r0:f 0= .string s:=hfv 0 _ (slot_get s0 (by decide));have r1:f 1=undef:=hfv 1 _ (slot_get s1 (by decide));have r2:f 2= .pointer (some ⟨w.heap.size,0,none⟩):=hfv 2 _ (slot_get s2 (by decide));have r3:f 3= .pointer (some ⟨w.heap.size+1,0,none⟩):=hfv 3 _ (slot_get s3 (by decide));have r4:f 4= .pointer (some ⟨w.heap.size+1+1,0,none⟩):=hfv 4 _ (slot_get s4 (by decide));have r10:f 10= .func (.func 44) #[] #[.pointer (some ⟨w.heap.size,0,none⟩), .pointer (some ⟨w.heap.size+1,0,none⟩), .pointer (some ⟨w.heap.size+1+1,0,none⟩)]:=hfv 10 _ (slot_get s10 (by decide));have r11:f 11= .string s:=hfv 11 _ (slot_get s11 (by decide));have r12:f 12= .slice (some ⟨w.heap.size+1+1+1,0,none⟩) lines.length lines.length:=hfv 12 _ (slot_get s12 (by decide));have r13:f 13= .int .i64 lines.length:=hfv 13 _ (slot_get s13 (by decide));have r14:f 14= .int .i64 k:=hfv 14 _ (slot_get s14 (by decide));have r108:f 108=undef:=hfv 108 _ (slot_get s108 (by decide));rw [r0,r1,r2,r3,r4,r10,r11,r12,r13,r14,r108]at hfl;rw [hfl];clear hf hfl hfv hsz s0 s1 s2 s3 s4 s10 s11 s12 s13 s14 s108 r0 r1 r2 r3 r4 r10 r11 r12 r13 r14 r108;have R:ReadR w lines (.int .i64 ((k+1:Nat):Int)) w3:=⟨k+1,_,_,_,rfl,hI3⟩;clear hI3 d0 d1 d2 d3 d4 d5 d6 d7 d8 d9 d10 c0 f0 hown HF HI HI2 HGC
           go_wp2
           refine⟨?_, ?measure⟩
           (repeat apply Exists.intro)
           refine⟨?rel,rfl⟩
           case rel=>exact R
           case measure=>simp [RowKit.intOf];omega
     · have e1:(hd.toList==([118,101,114,115,105,111,110]:List UInt8))=false:=by
        rw [ByteArray.toList_eq];simpa [wV]using hV
       by_cases hS:hd.data.toList=wS
       · have e2:(hd.toList==([115,116,114,101,101,116]:List UInt8))=true:=by
          rw [ByteArray.toList_eq,hS];rfl
         have hNa:=hNa.out 5 (by omega);have hNb:=fun h=>hNb.out h 5 (by omega)
         have e11:((5:Nat):Int)=5:=rfl;rw [e11]at hNa;simp only [e11]at hNb;have HNa:=Lib.hid hNa;have HNb:=Lib.hid hNb;clear hNa hNb;cases hnum:numsW 5 (bl t)with
         |none=>
          have hno:stepP b x.data.toList=none:=by
           rw [hst];show(if hd.data.toList=wV then _ else if hd.data.toList=wS then(numsW 5 (bl t)).map _ else _)=none
           rw [if_neg hV,if_pos hS,hnum];rfl
          have HNUM:=Lib.hid hnum;have HNO:=Lib.hid hno;clear hnum hst hV hno hS
          go_wp2_with fail
          · refine(HNb.out (by first|rfl|assumption)).mono ?_
            rintro e w2 ⟨hb2,hp⟩;rw [HNUM.out]at hp;subst hp;exact HB.out _ ⟨rfl,rfl,rfl⟩ _ ((HI.out.below hb1).below hb2) HNO.out
          · refine(HNa.out).mono ?_;rintro e w2 ⟨hb2,hp⟩;rw [HNUM.out]at hp;subst hp;exact HB.out _ ⟨rfl,rfl,rfl⟩ _ ((HI.out.below hb1).below hb2) HNO.out
         |some ms=>
          have hyes:stepP b x.data.toList=some ⟨b.Versions,b.Streets++ [strOf ms]⟩:=by
           rw [hst];show(if hd.data.toList=wV then _ else if hd.data.toList=wS then(numsW 5 (bl t)).map _ else _)=_
           rw [if_neg hV,if_pos hS,hnum];rfl
          have hml:=nums_len hnum;have HNUM:=Lib.hid hnum;have HY:=Lib.hid hyes;clear hnum hyes hst hV hS
          match ms,hml with
          | [a0,a1,a2,a3,a4],_=>
          go_wp2_with fail
          · refine(HNb.out (by first|rfl|assumption)).mono ?_
            rintro e w2 ⟨hb2,hp⟩;rw [HNUM.out]at hp;obtain⟨g,hgg,rfl,hgc⟩:=hp;have hI2:=(HI.out.below hb1).below hb2;have d0:w2.cell? ⟨g,0,none⟩=some (.int .i64 a0):=by rw [Lib.cell_of_heap hgc];rfl
            have d1:w2.cell? ⟨g,1,none⟩=some (.int .i64 a1):=by rw [Lib.cell_of_heap hgc];rfl
            have d2:w2.cell? ⟨g,2,none⟩=some (.int .i64 a2):=by rw [Lib.cell_of_heap hgc];rfl
            have d3:w2.cell? ⟨g,3,none⟩=some (.int .i64 a3):=by rw [Lib.cell_of_heap hgc];rfl
            have d4:w2.cell? ⟨g,4,none⟩=some (.int .i64 a4):=by rw [Lib.cell_of_heap hgc];rfl
            have c0:w2.cell? ⟨w.heap.size,1,none⟩=some (.slice sa ns sc):=by rw [Lib.cell_of_heap hI2.h0,Hss.out];rfl
            have f0:w2.frozen? ⟨w.heap.size,1,none⟩=false:=Lib.frozen_of_heap hI2.h0 1;have hown:=hI2.os;rw [Hss.out,←Hns.out]at hown;have hgw2:g<w2.heap.size:=(Array.getElem?_eq_some_iff.1 hgc).1
            have ag:(Value.slice sa ns sc).ownBlock≠some g:=fun e=>by
             have h8:=HI.out.below hb1;have h9:=h8.os;rw [Hss.out]at h9;have:=(ownBlock_lt h9 e).2;omega
            have an:(Value.slice sa ns sc).ownBlock≠some w.heap.size:=fun e=>by have:=(ownBlock_lt hown e).1;omega
            have hnw:w.heap.size<w2.heap.size:=by have:=hI2.sz;omega
            have hcv:=hI2.cs;rw [←Hns.out]at hcv;have HI2:=Lib.hid hI2;have HGC:=Lib.hid hgc;clear hI2 hgc;have hb63:ns+1≤maxLen:=by unfold maxLen;omega
            have hbb:(ns+1)*40≤140737488355328:=by omega
            have hN4:w.heap.size+4≤g:=by have:=HI.out.sz;have:=hb1.size;omega
            have hNg:w.heap.size≠g:=by omega
            have hog:(Value.slice va nv vc).ownBlock≠some g:=fun e=>by
             have h9:=(HI.out.below hb1).ov;rw [Hsv.out]at h9;have:=(ownBlock_lt h9 e).2;omega
            have hcl:=cls3 (P:=Tryz.prog) (tt:=tt) (nt:=Tryz.f16.ntmps) (dfs:= [dfr w.heap.size]) (N:=w.heap.size) (x:=(.v (.slice va nv vc))) (y:=(.row 1)) (v:= .slice sa ns sc) (n:=ns) (sz:=5) (ty:=49) (g:=g) (xs:=b.Streets.flatMap strC) (ns:= [a0,a1,a2,a3,a4]) (w:=w2) (u1:= .slice va nv vc) (u2:= .slice sa ns sc) rfl rfl (by rw [HI2.out.h0,Hsv.out,Hss.out]) ⟨hown.1,hown.2.imp id fun⟨g,cap,cur,h1,h2,h3⟩=>⟨g,cap,cur,h1,Nat.zero_le _,h3⟩⟩ HGC.out hNg (fun q hq=>⟨fun e=>an (e▸hq),fun e=>ag (e▸hq)⟩);have hI2:=HI2.out;rw [Hsv.out,Hss.out]at hI2;have hrd:readL k ((bl lines).drop k) b=readL (k+1) ((bl lines).drop (k+1)) ⟨b.Versions,b.Streets++ [strOf [a0,a1,a2,a3,a4]]⟩:=by rw [HR.out,HY.out]
            have hfin:=fun w3 v' h1 h2 h3 h4=>hI2.addS2 (w3:=w3) (v':=v') (g:=g) h1 ⟨hN4,rfl⟩ hog h2 h3 h4 hlt hrd
            have HF:=Lib.hid hfin;clear hI2 hrd hfin
            go_wp2
            obtain⟨HP,hHP⟩:∃HP,HP=hp3 w.heap.size (.v (.slice va nv vc)) (.row 1) (.slice sa ns sc) ns 5 49 g (b.Streets.flatMap strC) ([a0,a1,a2,a3,a4].map fun i=> .v (.int .i64 i)):=⟨_,rfl⟩;rw [←hHP]at hcl;refine reg_sx (X:=⟨Tryz.prog,tt,w2,bs HP,Tryz.f16.ntmps, [], [dfr w.heap.size], []⟩) pok (T:=(9, .osl 2 0 5 5):: [(0, .v (.string s)),(1, .v undef),(2, .own 0 0),(3, .v (.pointer (some ⟨w.heap.size+1,0,none⟩))),(4, .v (.pointer (some ⟨w.heap.size+1+1,0,none⟩))),(10, .v (.func (.func 44) #[] #[.pointer (some ⟨w.heap.size,0,none⟩), .pointer (some ⟨w.heap.size+1,0,none⟩), .pointer (some ⟨w.heap.size+1+1,0,none⟩)])),(11, .v (.string s)),(12, .v (.slice (some ⟨w.heap.size+1+1+1,0,none⟩) lines.length lines.length)),(13, .v (.int .i64 lines.length)),(14, .v (.int .i64 k)),(108, .v undef)]) (H:=HP) (nk:=3) (p:=(getP pl16 14).getD .nil) (K:=KV (bs HP) w2.heap.size w.heap.size (.v (.slice va nv vc)) (.row 1) (ns+1) 5 49 g (b.Streets.flatMap strC++ [.int .i64 a0, .int .i64 a1, .int .i64 a2, .int .i64 a3, .int .i64 a4]) ([(0, .v (.string s)),(1, .v undef),(2, .own 0 0),(3, .v (.pointer (some ⟨w.heap.size+1,0,none⟩))),(4, .v (.pointer (some ⟨w.heap.size+1+1,0,none⟩))),(10, .v (.func (.func 44) #[] #[.pointer (some ⟨w.heap.size,0,none⟩), .pointer (some ⟨w.heap.size+1,0,none⟩), .pointer (some ⟨w.heap.size+1+1,0,none⟩)])),(11, .v (.string s)),(12, .v (.slice (some ⟨w.heap.size+1+1+1,0,none⟩) lines.length lines.length)),(13, .v (.int .i64 lines.length)),(14, .v (.int .i64 k)),(108, .v undef)])) ⟨⟨rfl,Nat.le_of_ble_eq_true rfl⟩, ?hT,rfl,hcl,Nat.le_refl _,by simp⟩ (by kernel_rfl) ?h ?hQ
            case hT=>
             intro d q hd;subst hHP;exact slots_of (T0:=(9, .osl 2 0 5 5):: [(0, .v (.string s)),(1, .v undef),(2, .own 0 0),(3, .v (.pointer (some ⟨w.heap.size+1,0,none⟩))),(4, .v (.pointer (some ⟨w.heap.size+1+1,0,none⟩))),(10, .v (.func (.func 44) #[] #[.pointer (some ⟨w.heap.size,0,none⟩), .pointer (some ⟨w.heap.size+1,0,none⟩), .pointer (some ⟨w.heap.size+1+1,0,none⟩)])),(11, .v (.string s)),(12, .v (.slice (some ⟨w.heap.size+1+1+1,0,none⟩) lines.length lines.length)),(13, .v (.int .i64 lines.length)),(14, .v (.int .i64 k)),(108, .v undef)]) ⟨rfl,rfl,rfl,rfl,rfl,rfl,rfl,rfl,rfl,rfl,rfl,rfl,trivial⟩ d q hd
            case h=>
             subst hHP;refine⟨by decide, ?_⟩;refine⟨_,rfl, ?_⟩;refine⟨by decide, ?_⟩;refine⟨_,rfl, ?_⟩;refine⟨by decide, ?_⟩;refine⟨_,rfl, ?_⟩;refine⟨by decide, ?_⟩;refine⟨_,rfl, ?_⟩;refine⟨by decide, ?_⟩;refine⟨_,rfl, ?_⟩;refine Or.inl fun q hq1 hq2=> ?_
             refine AppVC.mk ⟨1,ns,1, .slice sa ns sc,b.Streets.flatMap strC, [.int .i64 a0, .int .i64 a1, .int .i64 a2, .int .i64 a3, .int .i64 a4],⟨by decide,⟨rfl,_,rfl,rfl,rfl⟩,hbb,hb63⟩, .inr (.inl ⟨rfl,rfl,fun v' w3 hv' hb' hf=> ?_⟩)⟩;exact⟨v',_,fun e=>by have:=(hv'.1 e).2;omega,fun r hr=>(hb' r hr).elim (fun hm=>(List.mem_cons.1 hm).elim (fun e=> .inr (e▸hq1)) .inl) .inr,rfl,rfl,rfl,rfl,rfl,rfl,rfl,rfl,rfl,rfl,rfl,rfl,rfl,rfl,trivial⟩
            case hQ=>
             subst hHP;intro st' a' w3 hK hl;obtain⟨_,_,_,_,_,_,_,hlk⟩:=id hK;have hsl:=lookAll_slot hl.rel hlk;obtain⟨v',hne,h0,h1,hq,hrv,hbo⟩:=kv_world hK hl.rel (by simp) (by simp) (by decide) (by decide);have h0':w3.heap[w.heap.size]?=some (.cells #[.slice va nv vc,v'] 25 (0,0)):=by rw [←hrv];exact h0
             rw [Hns.out]at h1;have hI3:=HF.out w3 v' hl.fx h0' h1 hq;have s0:=hsl 0 (.v (.string s)) (by simp) (by simp);have s1:=hsl 1 (.v undef) (by simp) (by simp);have s2:=hsl 2 (.own 0 0) (by simp) (by simp);have s3:=hsl 3 (.v (.pointer (some ⟨w.heap.size+1,0,none⟩))) (by simp) (by simp);have s4:=hsl 4 (.v (.pointer (some ⟨w.heap.size+1+1,0,none⟩))) (by simp) (by simp);have s10:=hsl 10 (.v (.func (.func 44) #[] #[.pointer (some ⟨w.heap.size,0,none⟩), .pointer (some ⟨w.heap.size+1,0,none⟩), .pointer (some ⟨w.heap.size+1+1,0,none⟩)])) (by simp) (by simp);have s11:=hsl 11 (.v (.string s)) (by simp) (by simp);have s12:=hsl 12 (.v (.slice (some ⟨w.heap.size+1+1+1,0,none⟩) lines.length lines.length)) (by simp) (by simp);have s13:=hsl 13 (.v (.int .i64 lines.length)) (by simp) (by simp);have s14:=hsl 14 (.v (.int .i64 k)) (by simp) (by simp);have s108:=hsl 108 (.v undef) (by simp) (by simp);simp only [den,hbo]at s2;have hsz:a'.tmps.size=109:=hl.rel.size.1;have hdf:a'.defers= [dfr w.heap.size]:=hl.rel.dfs;clear hl hK hlk hsl h0 h0' h1 hq hrv hbo hcl;obtain⟨tm,dl⟩:=a';obtain⟨f,hf,hfv⟩:=arr_fun tm 109 hsz;have hfl:tm=(f 0::f 1::f 2::f 3::f 4::f 5::f 6::f 7::f 8::f 9::f 10::f 11::f 12::f 13::f 14::f 15::f 16::f 17::f 18::f 19::f 20::f 21::f 22::f 23::f 24::f 25::f 26::f 27::f 28::f 29::f 30::f 31::f 32::f 33::f 34::f 35::f 36::f 37::f 38::f 39::f 40::f 41::f 42::f 43::f 44::f 45::f 46::f 47::f 48::f 49::f 50::f 51::f 52::f 53::f 54::f 55::f 56::f 57::f 58::f 59::f 60::f 61::f 62::f 63::f 64::f 65::f 66::f 67::f 68::f 69::f 70::f 71::f 72::f 73::f 74::f 75::f 76::f 77::f 78::f 79::f 80::f 81::f 82::f 83::f 84::f 85::f 86::f 87::f 88::f 89::f 90::f 91::f 92::f 93::f 94::f 95::f 96::f 97::f 98::f 99::f 100::f 101::f 102::f 103::f 104::f 105::f 106::f 107::f 108:: []).toArray:=hf;obtain rfl:dl= [{ target:= .fn (.func 44) #[.pointer (some ⟨w.heap.size,0,none⟩), .pointer (some ⟨w.heap.size+1,0,none⟩), .pointer (some ⟨w.heap.size+1+1,0,none⟩)],args:= #[]}]:=hdf;have r0:f 0= .string s:=hfv 0 _ (slot_get s0 (by decide));have r1:f 1=undef:=hfv 1 _ (slot_get s1 (by decide));have r2:f 2= .pointer (some ⟨w.heap.size,0,none⟩):=hfv 2 _ (slot_get s2 (by decide));have r3:f 3= .pointer (some ⟨w.heap.size+1,0,none⟩):=hfv 3 _ (slot_get s3 (by decide));have r4:f 4= .pointer (some ⟨w.heap.size+1+1,0,none⟩):=hfv 4 _ (slot_get s4 (by decide));have r10:f 10= .func (.func 44) #[] #[.pointer (some ⟨w.heap.size,0,none⟩), .pointer (some ⟨w.heap.size+1,0,none⟩), .pointer (some ⟨w.heap.size+1+1,0,none⟩)]:=hfv 10 _ (slot_get s10 (by decide));have r11:f 11= .string s:=hfv 11 _ (slot_get s11 (by decide));have r12:f 12= .slice (some ⟨w.heap.size+1+1+1,0,none⟩) lines.length lines.length:=hfv 12 _ (slot_get s12 (by decide));have r13:f 13= .int .i64 lines.length:=hfv 13 _ (slot_get s13 (by decide));have r14:f 14= .int .i64 k:=hfv 14 _ (slot_get s14 (by decide));have r108:f 108=undef:=hfv 108 _ (slot_get s108 (by decide));rw [r0,r1,r2,r3,r4,r10,r11,r12,r13,r14,r108]at hfl;rw [hfl];clear hf hfl hfv hsz s0 s1 s2 s3 s4 s10 s11 s12 s13 s14 s108 r0 r1 r2 r3 r4 r10 r11 r12 r13 r14 r108;have R:ReadR w lines (.int .i64 ((k+1:Nat):Int)) w3:=⟨k+1,_,_,_,rfl,hI3⟩;clear hI3 d0 d1 d2 d3 d4 c0 f0 hown HF HI HI2 HGC
             go_wp2
             refine⟨?_, ?measure⟩
             (repeat apply Exists.intro)
             refine⟨?rel,rfl⟩
             case rel=>exact R
             case measure=>simp [RowKit.intOf];omega
          · refine(HNa.out).mono ?_;rintro e w2 ⟨hb2,hp⟩;rw [HNUM.out]at hp;obtain⟨g,hgg,rfl,hgc⟩:=hp;have hI2:=(HI.out.below hb1).below hb2;have d0:w2.cell? ⟨g,0,none⟩=some (.int .i64 a0):=by rw [Lib.cell_of_heap hgc];rfl
            have d1:w2.cell? ⟨g,1,none⟩=some (.int .i64 a1):=by rw [Lib.cell_of_heap hgc];rfl
            have d2:w2.cell? ⟨g,2,none⟩=some (.int .i64 a2):=by rw [Lib.cell_of_heap hgc];rfl
            have d3:w2.cell? ⟨g,3,none⟩=some (.int .i64 a3):=by rw [Lib.cell_of_heap hgc];rfl
            have d4:w2.cell? ⟨g,4,none⟩=some (.int .i64 a4):=by rw [Lib.cell_of_heap hgc];rfl
            have c0:w2.cell? ⟨w.heap.size,1,none⟩=some (.slice sa ns sc):=by rw [Lib.cell_of_heap hI2.h0,Hss.out];rfl
            have f0:w2.frozen? ⟨w.heap.size,1,none⟩=false:=Lib.frozen_of_heap hI2.h0 1;have hown:=hI2.os;rw [Hss.out,←Hns.out]at hown;have hgw2:g<w2.heap.size:=(Array.getElem?_eq_some_iff.1 hgc).1
            have ag:(Value.slice sa ns sc).ownBlock≠some g:=fun e=>by
             have h8:=HI.out.below hb1;have h9:=h8.os;rw [Hss.out]at h9;have:=(ownBlock_lt h9 e).2;omega
            have an:(Value.slice sa ns sc).ownBlock≠some w.heap.size:=fun e=>by have:=(ownBlock_lt hown e).1;omega
            have hnw:w.heap.size<w2.heap.size:=by have:=hI2.sz;omega
            have hcv:=hI2.cs;rw [←Hns.out]at hcv;have HI2:=Lib.hid hI2;have HGC:=Lib.hid hgc;clear hI2 hgc;have hb63:ns+1≤maxLen:=by unfold maxLen;omega
            have hbb:(ns+1)*40≤140737488355328:=by omega
            have hN4:w.heap.size+4≤g:=by have:=HI.out.sz;have:=hb1.size;omega
            have hNg:w.heap.size≠g:=by omega
            have hog:(Value.slice va nv vc).ownBlock≠some g:=fun e=>by
             have h9:=(HI.out.below hb1).ov;rw [Hsv.out]at h9;have:=(ownBlock_lt h9 e).2;omega
            have hcl:=cls3 (P:=Tryz.prog) (tt:=tt) (nt:=Tryz.f16.ntmps) (dfs:= [dfr w.heap.size]) (N:=w.heap.size) (x:=(.v (.slice va nv vc))) (y:=(.row 1)) (v:= .slice sa ns sc) (n:=ns) (sz:=5) (ty:=49) (g:=g) (xs:=b.Streets.flatMap strC) (ns:= [a0,a1,a2,a3,a4]) (w:=w2) (u1:= .slice va nv vc) (u2:= .slice sa ns sc) rfl rfl (by rw [HI2.out.h0,Hsv.out,Hss.out]) ⟨hown.1,hown.2.imp id fun⟨g,cap,cur,h1,h2,h3⟩=>⟨g,cap,cur,h1,Nat.zero_le _,h3⟩⟩ HGC.out hNg (fun q hq=>⟨fun e=>an (e▸hq),fun e=>ag (e▸hq)⟩);have hI2:=HI2.out;rw [Hsv.out,Hss.out]at hI2;have hrd:readL k ((bl lines).drop k) b=readL (k+1) ((bl lines).drop (k+1)) ⟨b.Versions,b.Streets++ [strOf [a0,a1,a2,a3,a4]]⟩:=by rw [HR.out,HY.out]
            have hfin:=fun w3 v' h1 h2 h3 h4=>hI2.addS2 (w3:=w3) (v':=v') (g:=g) h1 ⟨hN4,rfl⟩ hog h2 h3 h4 hlt hrd
            have HF:=Lib.hid hfin;clear hI2 hrd hfin
            go_wp2
            obtain⟨HP,hHP⟩:∃HP,HP=hp3 w.heap.size (.v (.slice va nv vc)) (.row 1) (.slice sa ns sc) ns 5 49 g (b.Streets.flatMap strC) ([a0,a1,a2,a3,a4].map fun i=> .v (.int .i64 i)):=⟨_,rfl⟩;rw [←hHP]at hcl;refine reg_sx (X:=⟨Tryz.prog,tt,w2,bs HP,Tryz.f16.ntmps, [], [dfr w.heap.size], []⟩) pok (T:=(9, .osl 2 0 5 5):: [(0, .v (.string s)),(1, .v undef),(2, .own 0 0),(3, .v (.pointer (some ⟨w.heap.size+1,0,none⟩))),(4, .v (.pointer (some ⟨w.heap.size+1+1,0,none⟩))),(10, .v (.func (.func 44) #[] #[.pointer (some ⟨w.heap.size,0,none⟩), .pointer (some ⟨w.heap.size+1,0,none⟩), .pointer (some ⟨w.heap.size+1+1,0,none⟩)])),(11, .v (.string s)),(12, .v (.slice (some ⟨w.heap.size+1+1+1,0,none⟩) lines.length lines.length)),(13, .v (.int .i64 lines.length)),(14, .v (.int .i64 k)),(108, .v undef)]) (H:=HP) (nk:=3) (p:=(getP pl16 14).getD .nil) (K:=KV (bs HP) w2.heap.size w.heap.size (.v (.slice va nv vc)) (.row 1) (ns+1) 5 49 g (b.Streets.flatMap strC++ [.int .i64 a0, .int .i64 a1, .int .i64 a2, .int .i64 a3, .int .i64 a4]) ([(0, .v (.string s)),(1, .v undef),(2, .own 0 0),(3, .v (.pointer (some ⟨w.heap.size+1,0,none⟩))),(4, .v (.pointer (some ⟨w.heap.size+1+1,0,none⟩))),(10, .v (.func (.func 44) #[] #[.pointer (some ⟨w.heap.size,0,none⟩), .pointer (some ⟨w.heap.size+1,0,none⟩), .pointer (some ⟨w.heap.size+1+1,0,none⟩)])),(11, .v (.string s)),(12, .v (.slice (some ⟨w.heap.size+1+1+1,0,none⟩) lines.length lines.length)),(13, .v (.int .i64 lines.length)),(14, .v (.int .i64 k)),(108, .v undef)])) ⟨⟨rfl,Nat.le_of_ble_eq_true rfl⟩, ?hT,rfl,hcl,Nat.le_refl _,by simp⟩ (by kernel_rfl) ?h ?hQ
            case hT=>
             intro d q hd;subst hHP;exact slots_of (T0:=(9, .osl 2 0 5 5):: [(0, .v (.string s)),(1, .v undef),(2, .own 0 0),(3, .v (.pointer (some ⟨w.heap.size+1,0,none⟩))),(4, .v (.pointer (some ⟨w.heap.size+1+1,0,none⟩))),(10, .v (.func (.func 44) #[] #[.pointer (some ⟨w.heap.size,0,none⟩), .pointer (some ⟨w.heap.size+1,0,none⟩), .pointer (some ⟨w.heap.size+1+1,0,none⟩)])),(11, .v (.string s)),(12, .v (.slice (some ⟨w.heap.size+1+1+1,0,none⟩) lines.length lines.length)),(13, .v (.int .i64 lines.length)),(14, .v (.int .i64 k)),(108, .v undef)]) ⟨rfl,rfl,rfl,rfl,rfl,rfl,rfl,rfl,rfl,rfl,rfl,rfl,trivial⟩ d q hd
            case h=>
             subst hHP;refine⟨by decide, ?_⟩;refine⟨_,rfl, ?_⟩;refine⟨by decide, ?_⟩;refine⟨_,rfl, ?_⟩;refine⟨by decide, ?_⟩;refine⟨_,rfl, ?_⟩;refine⟨by decide, ?_⟩;refine⟨_,rfl, ?_⟩;refine⟨by decide, ?_⟩;refine⟨_,rfl, ?_⟩;refine Or.inl fun q hq1 hq2=> ?_
             refine AppVC.mk ⟨1,ns,1, .slice sa ns sc,b.Streets.flatMap strC, [.int .i64 a0, .int .i64 a1, .int .i64 a2, .int .i64 a3, .int .i64 a4],⟨by decide,⟨rfl,_,rfl,rfl,rfl⟩,hbb,hb63⟩, .inr (.inl ⟨rfl,rfl,fun v' w3 hv' hb' hf=> ?_⟩)⟩;exact⟨v',_,fun e=>by have:=(hv'.1 e).2;omega,fun r hr=>(hb' r hr).elim (fun hm=>(List.mem_cons.1 hm).elim (fun e=> .inr (e▸hq1)) .inl) .inr,rfl,rfl,rfl,rfl,rfl,rfl,rfl,rfl,rfl,rfl,rfl,rfl,rfl,rfl,trivial⟩
            case hQ=>
             subst hHP;intro st' a' w3 hK hl;obtain⟨_,_,_,_,_,_,_,hlk⟩:=id hK;have hsl:=lookAll_slot hl.rel hlk;obtain⟨v',hne,h0,h1,hq,hrv,hbo⟩:=kv_world hK hl.rel (by simp) (by simp) (by decide) (by decide);have h0':w3.heap[w.heap.size]?=some (.cells #[.slice va nv vc,v'] 25 (0,0)):=by rw [←hrv];exact h0
             rw [Hns.out]at h1;have hI3:=HF.out w3 v' hl.fx h0' h1 hq;have s0:=hsl 0 (.v (.string s)) (by simp) (by simp);have s1:=hsl 1 (.v undef) (by simp) (by simp);have s2:=hsl 2 (.own 0 0) (by simp) (by simp);have s3:=hsl 3 (.v (.pointer (some ⟨w.heap.size+1,0,none⟩))) (by simp) (by simp);have s4:=hsl 4 (.v (.pointer (some ⟨w.heap.size+1+1,0,none⟩))) (by simp) (by simp);have s10:=hsl 10 (.v (.func (.func 44) #[] #[.pointer (some ⟨w.heap.size,0,none⟩), .pointer (some ⟨w.heap.size+1,0,none⟩), .pointer (some ⟨w.heap.size+1+1,0,none⟩)])) (by simp) (by simp);have s11:=hsl 11 (.v (.string s)) (by simp) (by simp);have s12:=hsl 12 (.v (.slice (some ⟨w.heap.size+1+1+1,0,none⟩) lines.length lines.length)) (by simp) (by simp);have s13:=hsl 13 (.v (.int .i64 lines.length)) (by simp) (by simp);have s14:=hsl 14 (.v (.int .i64 k)) (by simp) (by simp);have s108:=hsl 108 (.v undef) (by simp) (by simp);simp only [den,hbo]at s2;have hsz:a'.tmps.size=109:=hl.rel.size.1;have hdf:a'.defers= [dfr w.heap.size]:=hl.rel.dfs;clear hl hK hlk hsl h0 h0' h1 hq hrv hbo hcl;obtain⟨tm,dl⟩:=a';obtain⟨f,hf,hfv⟩:=arr_fun tm 109 hsz;have hfl:tm=(f 0::f 1::f 2::f 3::f 4::f 5::f 6::f 7::f 8::f 9::f 10::f 11::f 12::f 13::f 14::f 15::f 16::f 17::f 18::f 19::f 20::f 21::f 22::f 23::f 24::f 25::f 26::f 27::f 28::f 29::f 30::f 31::f 32::f 33::f 34::f 35::f 36::f 37::f 38::f 39::f 40::f 41::f 42::f 43::f 44::f 45::f 46::f 47::f 48::f 49::f 50::f 51::f 52::f 53::f 54::f 55::f 56::f 57::f 58::f 59::f 60::f 61::f 62::f 63::f 64::f 65::f 66::f 67::f 68::f 69::f 70::f 71::f 72::f 73::f 74::f 75::f 76::f 77::f 78::f 79::f 80::f 81::f 82::f 83::f 84::f 85::f 86::f 87::f 88::f 89::f 90::f 91::f 92::f 93::f 94::f 95::f 96::f 97::f 98::f 99::f 100::f 101::f 102::f 103::f 104::f 105::f 106::f 107::f 108:: []).toArray:=hf;obtain rfl:dl= [{ target:= .fn (.func 44) #[.pointer (some ⟨w.heap.size,0,none⟩), .pointer (some ⟨w.heap.size+1,0,none⟩), .pointer (some ⟨w.heap.size+1+1,0,none⟩)],args:= #[]}]:=hdf;have r0:f 0= .string s:=hfv 0 _ (slot_get s0 (by decide));have r1:f 1=undef:=hfv 1 _ (slot_get s1 (by decide));have r2:f 2= .pointer (some ⟨w.heap.size,0,none⟩):=hfv 2 _ (slot_get s2 (by decide));have r3:f 3= .pointer (some ⟨w.heap.size+1,0,none⟩):=hfv 3 _ (slot_get s3 (by decide));have r4:f 4= .pointer (some ⟨w.heap.size+1+1,0,none⟩):=hfv 4 _ (slot_get s4 (by decide));have r10:f 10= .func (.func 44) #[] #[.pointer (some ⟨w.heap.size,0,none⟩), .pointer (some ⟨w.heap.size+1,0,none⟩), .pointer (some ⟨w.heap.size+1+1,0,none⟩)]:=hfv 10 _ (slot_get s10 (by decide));have r11:f 11= .string s:=hfv 11 _ (slot_get s11 (by decide));have r12:f 12= .slice (some ⟨w.heap.size+1+1+1,0,none⟩) lines.length lines.length:=hfv 12 _ (slot_get s12 (by decide));have r13:f 13= .int .i64 lines.length:=hfv 13 _ (slot_get s13 (by decide));have r14:f 14= .int .i64 k:=hfv 14 _ (slot_get s14 (by decide));have r108:f 108=undef:=hfv 108 _ (slot_get s108 (by decide));rw [r0,r1,r2,r3,r4,r10,r11,r12,r13,r14,r108]at hfl;rw [hfl];clear hf hfl hfv hsz s0 s1 s2 s3 s4 s10 s11 s12 s13 s14 s108 r0 r1 r2 r3 r4 r10 r11 r12 r13 r14 r108;have R:ReadR w lines (.int .i64 ((k+1:Nat):Int)) w3:=⟨k+1,_,_,_,rfl,hI3⟩;clear hI3 d0 d1 d2 d3 d4 c0 f0 hown HF HI HI2 HGC
             go_wp2
             refine⟨?_, ?measure⟩
             (repeat apply Exists.intro)
             refine⟨?rel,rfl⟩
             case rel=>exact R
             case measure=>simp [RowKit.intOf];omega
       · have e2:(hd.toList==([115,116,114,101,101,116]:List UInt8))=false:=by
          rw [ByteArray.toList_eq];simpa [wS]using hS
         have hno:stepP b x.data.toList=none:=by
          rw [hst];show(if hd.data.toList=wV then _ else if hd.data.toList=wS then _ else _)=none
          rw [if_neg hV,if_neg hS]
         have HNO:=Lib.hid hno;clear hst hV hS hno
         go_wp2
         simp [Instr.panic,Result.andThen,Oper.upon,Exit.then,Exit.inBlock];exact HB.out _ ⟨rfl,rfl,rfl⟩ _ (HI.out.below hb1) HNO.out
  · obtain rfl:k=lines.length:=by have:=hI.hk;omega
    have c0:wr.cell? ⟨w.heap.size,0,none⟩=some (.slice va nv vc):=by rw [Lib.cell_of_heap hI.h0,Hsv.out];rfl
    have f0:wr.frozen? ⟨w.heap.size,0,none⟩=false:=Lib.frozen_of_heap hI.h0 0;have c1:wr.cell? ⟨w.heap.size,1,none⟩=some (.slice sa ns sc):=by rw [Lib.cell_of_heap hI.h0,Hss.out];rfl
    have f1:wr.frozen? ⟨w.heap.size,1,none⟩=false:=Lib.frozen_of_heap hI.h0 1;have ca:wr.cell? ⟨w.heap.size+1,0,none⟩=some (.int .i64 0):=by rw [Lib.cell_of_heap hI.h1];rfl
    have fa:wr.frozen? ⟨w.heap.size+1,0,none⟩=false:=Lib.frozen_of_heap hI.h1 0;have ce:wr.cell? ⟨w.heap.size+1+1,0,none⟩=some (.int .i64 0):=by rw [Lib.cell_of_heap (show wr.heap[w.heap.size+1+1]?=_ from hI.h2)];rfl
    have fe:wr.frozen? ⟨w.heap.size+1+1,0,none⟩=false:=Lib.frozen_of_heap (show wr.heap[w.heap.size+1+1]?=_ from hI.h2) 0
    have e0:((((wr.setCell ⟨w.heap.size,0,none⟩ (.slice va nv vc)).setCell ⟨w.heap.size,1,none⟩ (.slice sa ns sc)).setCell ⟨w.heap.size+1,0,none⟩ (.int .i64 0)).setCell ⟨w.heap.size+1+1,0,none⟩ (.int .i64 0))=wr:=by
     rw [setCell_self hI.h0 (by rw [Hsv.out];rfl),setCell_self hI.h0 (by rw [Hss.out];rfl),setCell_self hI.h1 rfl,setCell_self (show wr.heap[w.heap.size+1+1]?=_ from hI.h2) rfl]
    have HI:=Lib.hid hI;have E0:=Lib.hid e0;clear hI e0
    go_wp2
    rw [E0.out];exact leaves_ok ⟨rfl,rfl,rfl⟩ HI.out
theorem rep_row {ok:Nat→Prop} {w:World} {base ty sz n:Nat} {v:Value} {xs:List Value} {l:List D} (h:w.ownsRow base ty sz v n xs) (hr:RepL ok w l xs) (hl:l.length=n*sz) (hf:flatD l=true) (hok:∀g,v.ownBlock=some g→ok g):Rep ok w (.lst sz n l) v:=by
 simp only [Rep];rcases h.2 with⟨rfl,rfl⟩|⟨g,cap,cur,rfl,hb,hgg,hn,hc,hcs,ht⟩
 · exact⟨none,0,rfl,Nat.le_refl _,by decide,hl,hf, .inl rfl⟩
 · refine⟨some ⟨g,0,none⟩,cap,rfl,hn,by unfold maxLen at hc;omega,hl,hf, .inr ⟨g,0,xs,rfl,hok g rfl,hr,fun j hj=> ?_⟩⟩;rw [Lib.cell_of_heap hgg,Nat.zero_add,←ht,List.getElem?_take_of_lt hj];simp
theorem repL_ints {ok:Nat→Prop} {w:World}:∀l:List Int,RepL ok w (l.map fun i=> .v (.int .i64 i)) (l.map (Value.int .i64))
 | []=>trivial
 |x::l=>⟨by simp [Rep,oneV],repL_ints l⟩
theorem repL_flat {ok:Nat→Prop} {w:World} {α:Type} (c:α→List D) (f:α→List Value) (h:∀x,RepL ok w (c x) (f x)):∀l:List α,RepL ok w (l.flatMap c) (l.flatMap f)
 | []=>trivial
 |x::l=>by
  rw [List.flatMap_cons,List.flatMap_cons];have h1:=h x;have h2:=repL_flat c f h l;generalize c x=a at h1⊢;generalize f x=b at h1⊢;generalize l.flatMap c=a2 at h2⊢;generalize l.flatMap f=b2 at h2⊢;clear h
  induction a generalizing b with
  |nil=>
   cases b with
   |nil=>exact h2
   |cons y b=>exact h1.elim
  |cons z a ih=>
   cases b with
   |nil=>exact h1.elim
   |cons y b=>exact⟨h1.1,ih b h1.2⟩
theorem flat_mem:∀ {l:List D},flatD l=true→∀ {d},d∈l→oneD d=true
 | [],_,_,hd=>by cases hd
 |x::l,h,d,hd=>by
  unfold flatD at h;split at h
  · rename_i hx;rcases List.mem_cons.1 hd with rfl|hd
    · exact hx
    · exact flat_mem h hd
  · cases h
theorem flatD_flat {α:Type} (c:α→List D) (h:∀x,flatD (c x)=true):∀l:List α,flatD (l.flatMap c)=true:=fun l=>flatD_of fun d hd=>by
 obtain⟨x,_,hd⟩:=List.mem_flatMap.1 hd;exact flat_mem (h x) hd
def m_bylaw_read (text:ByteArray):Option (TBylaw×Int×Int):=gd (text.size≤8000)<|some (match readL 0 (bl (linesB text)) ⟨[], []⟩with
 | .inl b=>(b,0,0)
 | .inr e=>(⟨[], []⟩,e,5))
theorem d_bylaw_read (text:ByteArray) (r:TBylaw×Int×Int) (hm:m_bylaw_read text=some r):Does Tryz.prog 16 [.v (.string text)] (fun x=>x= .tup [.agg (TBylaw.c r.1),DI r.2.1,DI r.2.2]):=by
 obtain⟨hg,hm⟩:=gd_some hm;intro ok w vs hr _ hgi;rw [repL1 hr];refine(read_any text hg w hgi).mono fun e w' ⟨hb,hp⟩=> ?_
 cases hrd:readL 0 (bl (linesB text)) ⟨[], []⟩with
 |inl b=>
  rw [hrd]at hp hm;cases hm;obtain⟨sv,ss,rfl,hv,hs⟩:=hp;refine⟨_,_,rfl,rfl, ?_,hb⟩
  have hok:∀ {ty sz n:Nat} {v:Value} {xs:List Value},w'.ownsRow (w.heap.size+4) ty sz v n xs→∀g,v.ownBlock=some g→w.heap.size≤g∧g<w'.heap.size:=fun h g hg=>by
   have:=ownBlock_lt h hg;omega
  simp only [Rep];refine⟨_,rfl,⟨⟨_,rfl,⟨rep_row hv (repL_flat TVersion.c verC (fun x=>repL_ints (verN x)) _) ?_ (flatD_flat _ (fun _=>rfl) _) (fun g hg=> .inr (hok hv g hg)),rep_row hs (repL_flat TStreet.c strC (fun x=>repL_ints (strN x)) _) ?_ (flatD_flat _ (fun _=>rfl) _) (fun g hg=> .inr (hok hs g hg)),trivial⟩, ?_⟩,⟨rfl,rfl⟩,⟨rfl,rfl⟩,trivial⟩⟩
  · exact flat_len_z (c:=TVersion.c) (z:=11) (fun _=>rfl) _
  · exact flat_len_z (c:=TStreet.c) (z:=5) (fun _=>rfl) _
  · rfl
 |inr e=>
  rw [hrd]at hp hm;cases hm;subst hp;refine⟨_,_,rfl,rfl, ?_,hb⟩;simp only [Rep];refine⟨_,rfl,⟨⟨_,rfl,⟨⟨none,0,rfl,Nat.le_refl _, ?_,rfl,rfl, .inl rfl⟩,⟨none,0,rfl,Nat.le_refl _, ?_,rfl,rfl, .inl rfl⟩,trivial⟩,rfl⟩,⟨rfl,rfl⟩,⟨rfl,rfl⟩,trivial⟩⟩<;>decide
end Go.Proofs.YtejkiefdjcfapaaGreatDoor
namespace Go.Proofs.YtejkiefdjcfapaaGreatDoor
open Go Go.RowKit Go.Sx Go.Lib
set_option maxRecDepth 100000
set_option maxHeartbeats 4000000
theorem bcheck_used (b:Nat) (w:World) (h0:w.cell? ⟨b,0,none⟩=some (.pointer (some ⟨b,0,none⟩))):
 Calls Tryz.prog 38 #[.pointer (some ⟨b,0,none⟩)] w fun e w'=>e= .returned (.tuple #[])∧w'=w:=by
 obtain⟨j,hj,_⟩:=Option.map_eq_some_iff.1 (show(Tryz.prog.info? 38).map (·.size)=some 2 by kernel_rfl)
 go_enter Tryz.func38,Tryz.ntmps38
 go_wp2
 rw [Lib.run_neq_ptr_same w _ Tryz.underlying35 hj]
 go_wp2
 go_end0
 exact⟨rfl,rfl⟩
theorem bcheck_fresh (b:Nat) (w:World) (h0:w.cell? ⟨b,0,none⟩=some (.pointer none)) (hsh:w.shape? b=some (38,2)) (hfz:w.frozen? ⟨b,0,none⟩=false):
 Calls Tryz.prog 38 #[.pointer (some ⟨b,0,none⟩)] w fun e w'=>e= .returned (.tuple #[])∧w'=w.setCell ⟨b,0,none⟩ (.pointer (some ⟨b,0,none⟩)):=by
 obtain⟨j,hj,hjs⟩:=Option.map_eq_some_iff.1 (show(Tryz.prog.info? 38).map (·.size)=some 2 by kernel_rfl)
 go_enter Tryz.func38,Tryz.ntmps38
 go_wp2
 rw [Lib.run_to_unsafe w ⟨b,0,none⟩ Tryz.underlying35 Tryz.underlying119 hj (by rw [hjs];decide) hsh (Nat.zero_lt_succ 1)];simp only [Result.andThen];rw [Oper.upon_value]
 go_wp2
 rw [run_callFunc_extern Tryz.func70 (by kernel_rfl) (by kernel_rfl) (by kernel_rfl) (e:=Extern.AbiNoEscape.same) (by kernel_rfl)];rw [Lib.run_noEscape];simp only [Result.andThen];rw [Oper.upon_value]
 go_wp2
 rw [Lib.run_from_unsafe w ⟨b,0,none⟩ Tryz.underlying119 Tryz.underlying35 hj hsh (by kernel_rfl)];simp only [Result.andThen];rw [Oper.upon_value]
 go_wp2
 go_end0
 exact⟨rfl,rfl⟩
theorem bcheck (B b:Nat) (bs:List Value) (w:World) (h:Lib.IsBuilder 38 5 B b bs w):
 Calls Tryz.prog 38 #[.pointer (some ⟨b,0,none⟩)] w fun e w'=>e= .returned (.tuple #[])∧Lib.BuilderAt 38 5 B b (.pointer (some ⟨b,0,none⟩)) bs w'∧Below B w w'∧Lib.OthersKept 5 (some b) w w':=by
 rcases h with h|h
 · refine(bcheck_fresh b w h.cell0 h.shape h.frozen0).mono ?_;rintro e w' ⟨rfl,rfl⟩;exact⟨rfl,h.used _,(Below.refl B w).setCell (p:=⟨b,0,none⟩) h.1 _,(Lib.OthersKept.refl _ _ w).setCell ⟨b,0,none⟩ rfl _⟩
 · refine(bcheck_used b w h.cell0).mono ?_;rintro e w' ⟨rfl,rfl⟩;exact⟨rfl,h,Below.refl B _,Lib.OthersKept.refl _ _ _⟩
theorem bwrite (B b:Nat) (bs:List Value) (s:ByteArray) (w:World) (h:Lib.IsBuilder 38 5 B b bs w) (hlen:bs.length+s.size≤140737488355328) (hBw:B≤w.heap.size):
 Calls Tryz.prog 11 #[.pointer (some ⟨b,0,none⟩), .string s] w fun e w'=>e= .returned (.tuple #[.int .i64 s.size, .nilIface])∧Lib.IsBuilder 38 5 B b (bs++Lib.strCells s) w'∧Below B w w'∧Lib.OthersKept 5 (some b) w w':=by
 obtain⟨i0,hi,hz0,hz1,hz2⟩:=info_parts lay_bstX.infoByte;have e240:∀args w,(callFunc 38 args).run Tryz.prog w= .ok (.enter 38 args) w:=enters_of Tryz.func38 (by kernel_rfl) rfl
 go_enter Tryz.func11,Tryz.ntmps11
 go_wp2_with (go_at_fn 38;refine(bcheck B b bs _ h).mono ?_)
 rintro e w1 ⟨rfl,h1,hb1,hk1⟩;obtain⟨hB,v,hbk,hown,hne⟩:=h1;have c0:w1.cell? ⟨b,0,none⟩=some (.pointer (some ⟨b,0,none⟩)):=by rw [Lib.cell_of_heap hbk];rfl
 have c1:w1.cell? ⟨b,1,none⟩=some v:=by rw [Lib.cell_of_heap hbk];rfl
 go_wp2_with (at_builtin;refine Lib.wpList_append_own_string _ rfl _ _ 36 9 rfl B 5 i0 Tryz.underlying36 Tryz.underlying9 hi hz0 hz1 hz2 _ _ _ rfl hown s rfl ?c3 ?c4 ?c5 ?_)
 case c3=>unfold maxLen;omega
 case c4=>omega
 case c5=>have:=hb1.size;omega
 intro v' w2 hown' hgrow _;have hlt:b<w1.heap.size:=(Array.getElem?_eq_some_iff.1 hbk).1
 have hb2:w2.heap[b]?=some (.cells #[.pointer (some ⟨b,0,none⟩),v] 38 (0,0)):=by
  rw [hgrow.block b hlt (fun e=>hne e.symm)];exact hbk
 have d0:w2.cell? ⟨b,0,none⟩=some (.pointer (some ⟨b,0,none⟩)):=by rw [Lib.cell_of_heap hb2];rfl
 have d1:w2.cell? ⟨b,1,none⟩=some v:=by rw [Lib.cell_of_heap hb2];rfl
 have f1:w2.frozen? ⟨b,1,none⟩=false:=Lib.frozen_of_heap hb2 1
 obtain⟨ao,n',cap,rfl⟩:∃ao n' cap,v'= .slice ao n' cap:=by
  rcases hown'.2 with⟨hv,_⟩|⟨g,cap,cur,hv,_⟩
  · exact⟨_,_,_,hv⟩
  · exact⟨_,_,_,hv⟩
 go_wp2
 go_ret2
 refine⟨rfl, .inr ?_, ?_,(hk1.grown hgrow (Lib.ownsRowF_kind (World.ownsRowF_of hown))).setCell ⟨b,1,none⟩ rfl _⟩
 · exact Lib.BuilderAt.put (T:=38) (e:=5) hB hb2 (bs':=bs++Lib.strCells s) (by simpa [Lib.strCells_length]using hown') (by decide)
 · exact(hb1.grown hgrow (by have:=hb1.size;omega) (fun k hk=>(hown.lt k hk).1)).setCell (p:=⟨b,1,none⟩) hB _
theorem bat_below {T e:TypeId} {B b:Nat} {p:Value} {bs:List Value} {w w':World} (h:Lib.BuilderAt T e B b p bs w) (hb:Below w.heap.size w w'):Lib.BuilderAt T e B b p bs w':=by
 obtain⟨hB,v,hbk,hown,hne⟩:=h;have hlt:=(Array.getElem?_eq_some_iff.1 hbk).1;refine⟨hB,v,by rw [hb.block b hlt];exact hbk,hown.kept (row:=none) ⟨hb.os,hb.tape,hb.output,hb.size,fun k hk _=>hb.block k hk⟩ ?_,hne⟩;cases hv:v.ownBlock with
 |none=>exact .inl rfl
 |some g=>exact .inr (by simp)
theorem isb_below {T e:TypeId} {B b:Nat} {bs:List Value} {w w':World} (h:Lib.IsBuilder T e B b bs w) (hb:Below w.heap.size w w'):Lib.IsBuilder T e B b bs w':=
 h.elim (fun h=> .inl (bat_below h hb)) (fun h=> .inr (bat_below h hb))
end Go.Proofs.YtejkiefdjcfapaaGreatDoor
namespace Go.Proofs.YtejkiefdjcfapaaGreatDoor
open Go Go.Sx Go.Lib
theorem itoa_eq (n:Int) (h:Small n):m_strconv_Itoa n=some ⟨(Lib.itoa n).toArray⟩:=by
 unfold Small at h;unfold m_strconv_Itoa gd;rw [if_pos (by omega)];rfl
def addN (o:ByteArray) (e:Int):ByteArray:=o++(⟨#[32]⟩++⟨(Lib.itoa e).toArray⟩)
theorem one_size (c:UInt8):(⟨#[c]⟩:ByteArray).size=1:=rfl
theorem itoa_size (x:Int):(⟨(Lib.itoa x).toArray⟩:ByteArray).size=(Lib.itoa x).length:=rfl
theorem addN_inv (word o:ByteArray) (pre:List Int) (x:Int) (hx:Small x) (h:o.data.toList=rowL word.data.toList pre∧o.size≤100+7*pre.length):(addN o x).data.toList=rowL word.data.toList (pre++ [x])∧(addN o x).size≤100+7*(pre++ [x]).length:=by
 have hlen:=small_len hx;unfold addN;refine⟨?_, ?_⟩
 · rw [ByteArray.data_append,Array.toList_append,h.1];unfold rowL;rw [List.flatMap_append];simp
 · rw [ByteArray.size_append,ByteArray.size_append,one_size,itoa_size,List.length_append,List.length_singleton];omega
theorem row_fold (word:ByteArray):∀(l pre:List Int) (o:ByteArray),(∀n∈l,Small n)→o.data.toList=rowL word.data.toList pre∧o.size≤100+7*pre.length→(l.foldl addN o).data.toList=rowL word.data.toList (pre++l)∧(l.foldl addN o).size≤100+7*(pre++l).length
 | [],pre,o,_,h=>by rw [List.append_nil];exact h
 |x::l,pre,o,hl,h=>by
  rw [List.foldl_cons,show pre++x::l=(pre++ [x])++l by simp];exact row_fold word l (pre++ [x]) _ (fun n hn=>hl n (List.mem_cons_of_mem _ hn)) (addN_inv word o pre x (hl x List.mem_cons_self) h)
theorem row_step (ns pre post:List Int) (x:Int) (o:ByteArray) (hl:ns=pre++x::post) (hn:ns.length≤100) (hx:Small x) (ho:o.size≤100+7*pre.length):m_bylaw_row_L1 ns (o,(pre.length:Int))=some (.inl (addN o x,((pre.length+1:Nat):Int))):=by
 have hk:pre.length<ns.length:=by rw [hl];simp
 have hlen:=small_len hx
 have hi:idx ns (pre.length:Int)=some x:=by
  rw [hl];unfold idx;simp
 unfold m_bylaw_row_L1;simp only;rw [if_pos (by simpa using hk),hi]
 simp only [Option.bind_some];rw [itoa_eq x hx];simp only [Option.bind_some];have hW:W ((pre.length:Int)+1)=((pre.length+1:Nat):Int):=by unfold W;rw [wrap_id (by omega)];rfl
 unfold gd;rw [if_pos (by rw [one_size,itoa_size];omega),if_pos (by rw [ByteArray.size_append,one_size,itoa_size];omega),hW];rfl
theorem row_end (ns:List Int) (o:ByteArray):m_bylaw_row_L1 ns (o,(ns.length:Int))=some (.inr (o,(ns.length:Int))):=by
 unfold m_bylaw_row_L1;simp
theorem row_loop (word:ByteArray) (hw:word.size≤100) (ns:List Int) (hn:ns.length≤100) (h:∀n∈ns,Small n):loopF (m_bylaw_row_L1 ns) (word,0)=some (ns.foldl addN word,(ns.length:Int)):=by
 have hloop:=loop_list (body:=m_bylaw_row_L1 ns) (E:=ByteArray×Int) (R:=Empty) ns (by omega) (fun k (o:ByteArray)=>(o,(k:Int))) (fun o (e:Int)=> .inl (addN o e)) (fun r=>nomatch r) (fun o=>(o,(ns.length:Int)))
  (fun pre o=>o.data.toList=rowL word.data.toList pre∧o.size≤100+7*pre.length) (fun pre x post o hl hP=>⟨row_step ns pre post x o hl hn (h x (by rw [hl];simp)) hP.2,fun s' hs'=>by
   cases hs';exact addN_inv word o pre x (h x (by rw [hl];simp)) hP⟩) (fun o _=>row_end ns o) word ⟨by simp [rowL],by simp;omega⟩
 rw [runL_foldl]at hloop;exact hloop
theorem row_eq (word:ByteArray) (hw:word.size≤100) (ns:List Int) (hn:ns.length≤100) (h:∀n∈ns,Small n):m_bylaw_row word ns=some ⟨(rowL word.data.toList ns++ [10]).toArray⟩:=by
 obtain⟨o,ho⟩:∃o,o=ns.foldl addN word:=⟨_,rfl⟩;have hinv:=row_fold word ns [] word h ⟨by simp [rowL],by simp;omega⟩;rw [←ho,List.nil_append]at hinv;unfold m_bylaw_row;rw [row_loop word hw ns hn h,←ho,Option.bind_some];show gd _ _=_;unfold gd;rw [if_pos (by rw [one_size];omega)];congr 1;apply ByteArray.ext;apply Array.ext';rw [ByteArray.data_append,Array.toList_append,hinv.1]
end Go.Proofs.YtejkiefdjcfapaaGreatDoor
namespace Go.Proofs.YtejkiefdjcfapaaGreatDoor
open Go Go.RowKit Go.Lib Go.Sx
set_option maxRecDepth 100000
set_option maxHeartbeats 8000000
theorem repL_cI {ok:Nat→Prop} {w:World}:∀l:List Int,RepL ok w (l.flatMap cI) (l.map (Value.int .i64))
 | []=>trivial
 |x::l=>by
  show RepL ok w (cI x++l.flatMap cI) _;exact⟨by simp [Rep,oneV],repL_cI l⟩
def wordV:ByteArray:=⟨#[118,101,114,115,105,111,110]⟩
def wordS:ByteArray:=⟨#[115,116,114,101,101,116]⟩
theorem row_c (word:ByteArray) (hw:word.size≤100) (ns:List Int) (hn:ns.length≤100) (h:∀n∈ns,Small n) (g:Nat) (w:World) (fr:Nat×Nat) (hg:w.heap[g]?=some (.cells (ns.map (Value.int .i64)).toArray 3 fr)) (hgi:GIW Tryz.prog w):
 Calls Tryz.prog 12 #[.string word, .slice (some ⟨g,0,none⟩) ns.length ns.length] w fun e w'=>e= .returned (.string ⟨(rowL word.data.toList ns++ [10]).toArray⟩)∧Below w.heap.size w w':=by
 have hlt:=(Array.getElem?_eq_some_iff.1 hg).1
 have hr:RepL (fun b=>b=g) w [.v (.string word),lD 1 ns cI] [.string word, .slice (some ⟨g,0,none⟩) ns.length ns.length]:=by
  refine⟨by simp [Rep,oneV], ?_,trivial⟩;simp only [lD,Rep];refine⟨_,_,rfl,Nat.le_refl _,by omega,flat_len_z (c:=cI) (z:=1) (fun _=>rfl) _,flatD_flat cI (fun _=>rfl) _, .inr ⟨g,0,_,rfl,rfl,repL_cI ns,fun j hj=> ?_⟩⟩;rw [Lib.cell_of_heap hg,Nat.zero_add];simp
 refine(d_bylaw_row word ns _ (row_eq word hw ns hn h) _ w _ hr (fun b hb=>hb▸hlt) hgi).mono fun e w' ⟨v,r,he,hq,hrep,hb⟩=>⟨?_,hb⟩
 subst hq;simp only [Rep]at hrep;rw [he,hrep.1]
def SmallB (b:TBylaw):Prop:=(∀v∈b.Versions,∀n∈verN v,Small n)∧(∀s∈b.Streets,∀n∈strN s,Small n)∧b.Versions.length≤1000∧b.Streets.length≤1000
def linesV (l:List TVersion):List UInt8:=l.flatMap fun v=>rowL wV (verN v)++ [10]
def linesS (l:List TStreet):List UInt8:=l.flatMap fun s=>rowL wS (strN s)++ [10]
structure PrI (M:Nat) (w1 wr:World) (x y:Value) (N:Nat) (t:List UInt8):Prop where
 bld:Lib.IsBuilder 38 5 M M (Lib.byteCells t) wr
 bel:Below M w1 wr
 sz:M+1≤wr.heap.size
 box:wr.heap[N]?=some (.cells #[x,y] 25 (0,0))
def PrV (M:Nat) (w1:World) (x y:Value) (N:Nat) (l:List TVersion) (i:Value) (wr:World):Prop:=∃k:Nat,i= .int .i64 (k:Int)∧k≤l.length∧PrI M w1 wr x y N (linesV (l.take k))
def PrS (M:Nat) (w1:World) (x y:Value) (N:Nat) (t:List UInt8) (l:List TStreet) (i:Value) (wr:World):Prop:=∃k:Nat,i= .int .i64 (k:Int)∧k≤l.length∧PrI M w1 wr x y N (t++linesS (l.take k))
theorem PrI.step {M:Nat} {w1 wr W3 W4:World} {x y:Value} {N:Nat} {t l:List UInt8} (h:PrI M w1 wr x y N t) (hb:Below wr.heap.size wr W3) (h2:Lib.IsBuilder 38 5 M M (Lib.byteCells t++Lib.strCells ⟨l.toArray⟩) W4) (h3:Below M W3 W4) (hN:N<M):PrI M w1 W4 x y N (t++l):=by
 have hs:=h.sz;refine⟨?_,(h.bel.trans (hb.mono (by omega))).trans h3,by have:=hb.size;have:=h3.size;omega, ?_⟩
 · rw [Lib.byteCells_append];exact h2
 · rw [h3.block N hN,hb.block N (by omega)];exact h.box
theorem cells_at {ok:Nat→Prop} {w:World} {α:Type} {z:Nat} (c:α→List D) (f:α→List Value) (hcf:∀ok w xs (l:List α),RepL ok w (l.flatMap c) xs→xs=l.flatMap f) (hz:∀x,(f x).length=z) (hz0:0<z) {l:List α} {a:Option Addr} {cap:Nat} (h:Rep ok w (lD z l c) (.slice a l.length cap)) {k:Nat} (hk:k<l.length):
 ∃bb oo,a=some ⟨bb,oo,none⟩∧ok bb∧∀j,j<z→w.cell? ⟨bb,oo+k*z+j,none⟩=(f l[k])[j]?:=by
 simp only [lD,Rep]at h;obtain⟨a',c',he,h1,h2,h3,h4,h5⟩:=h;cases he;rcases h5 with h5|⟨bb,oo,xs,rfl,hok,hrep,hcell⟩
 · omega
 · refine⟨bb,oo,rfl,hok,fun j hj=> ?_⟩;have hx:=hcf _ _ _ _ hrep
   have hlt:k*z+j<l.length*z:=by
    have:(k+1)*z≤l.length*z:=Nat.mul_le_mul_right _ hk;rw [Nat.add_mul]at this;omega
   have:=hcell (k*z+j) hlt;rw [show oo+(k*z+j)=oo+k*z+j by omega]at this;rw [this,hx];clear hcell this hrep hx h1 h2 h3 h4 hok hlt hcf
   induction l generalizing k with
   |nil=>simp at hk
   |cons y l ih=>
    cases k with
    |zero=>
     simp only [List.flatMap_cons,Nat.zero_mul,Nat.zero_add,List.getElem_cons_zero];rw [List.getElem?_append_left (by rw [hz];exact hj)]
    |succ k=>
     simp only [List.flatMap_cons,List.getElem_cons_succ];rw [List.getElem?_append_right (by rw [hz,Nat.add_mul];omega),hz,show(k+1)*z+j-z=k*z+j by rw [Nat.add_mul];omega];exact ih (k:=k) (by simpa using hk)
theorem ints_of {ok:Nat→Prop} {w:World} {α:Type} (c:α→List D) (n:α→List Int) (h:∀x,c x=(n x).map fun i=> .v (.int .i64 i)):∀(l:List α) (xs:List Value),RepL ok w (l.flatMap c) xs→xs=l.flatMap fun x=>(n x).map (Value.int .i64)
 | [],xs,hr=>by
  cases xs with
  |nil=>rfl
  |cons y xs=>exact hr.elim
 |x::l,xs,hr=>by
  rw [List.flatMap_cons,h x]at hr
  have key:∀(m:List Int) (xs:List Value),RepL ok w ((m.map fun i=>D.v (.int .i64 i))++l.flatMap c) xs→∃r,xs=m.map (Value.int .i64)++r∧RepL ok w (l.flatMap c) r:=by
   intro m
   induction m with
   |nil=>exact fun xs hr=>⟨xs,rfl,hr⟩
   |cons a m ih=>
    intro xs hr;cases xs with
    |nil=>exact hr.elim
    |cons y xs=>
     obtain⟨r,h1,h2⟩:=ih xs hr.2;have hy:=hr.1;simp only [Rep]at hy;exact⟨r,by rw [h1,hy.1];rfl,h2⟩
  obtain⟨r,h1,h2⟩:=key _ _ hr;rw [h1,List.flatMap_cons,ints_of c n h l r h2]
theorem linesV_len (l:List TVersion) (h:∀v∈l,∀n∈verN v,Small n):(linesV l).length≤l.length*85:=flat_le _ 85 _ fun v hv=>by
 have:=rowL_len wV (verN v) 6 fun n hn=>small_len (h v hv n hn)
 simp [verN,wV]at this⊢;omega
theorem linesS_len (l:List TStreet) (h:∀v∈l,∀n∈strN v,Small n):(linesS l).length≤l.length*42:=flat_le _ 42 _ fun v hv=>by
 have:=rowL_len wS (strN v) 6 fun n hn=>small_len (h v hv n hn)
 simp [strN,wS]at this⊢;omega
theorem alloc2_at (w:World) (o1 o2:Obj):((w.alloc o1).alloc o2).heap[w.heap.size+1]?=some o2:=by
 have:=(MapKept.heap_alloc (w.alloc o1) o2).1;simpa using this
theorem alloc2_below (w:World) (o1 o2:Obj):Below w.heap.size w ((w.alloc o1).alloc o2):=((Below.refl _ _).alloc (Nat.le_refl _) _).alloc (by simp) _
theorem list11 {α:Type} {l:List α} (h:l.length=11):∃a b c d e f g h i j k,l= [a,b,c,d,e,f,g,h,i,j,k]:=by
 match l,h with
 | [a,b,c,d,e,f,g,h,i,j,k],_=>exact⟨a,b,c,d,e,f,g,h,i,j,k,rfl⟩
theorem list5 {α:Type} {l:List α} (h:l.length=5):∃a b c d e,l= [a,b,c,d,e]:=by
 match l,h with
 | [a,b,c,d,e],_=>exact⟨a,b,c,d,e,rfl⟩
theorem bstring2 (B b:Nat) (l:List UInt8) (w:World) (h:Lib.IsBuilder 38 5 B b (Lib.byteCells l) w) (hBw:B≤w.heap.size):
 Calls Tryz.prog 13 #[.pointer (some ⟨b,0,none⟩)] w fun e w'=>e= .returned (.string ⟨l.toArray⟩)∧Below B w w':=Go.Proofs.Any.Builder_String_any lay_bst lay_bstX B b l w h hBw
theorem print_any (b:TBylaw) (hb:SmallB b) (a1 a2:Option Addr) (c1 c2 b1 o1 b2 o2:Nat) (w:World) (ok:Nat→Prop) (hok:∀q,ok q→q<w.heap.size) (h1:Rep ok w (lD 11 b.Versions TVersion.c) (.slice a1 b.Versions.length c1)) (h2:Rep ok w (lD 5 b.Streets TStreet.c) (.slice a2 b.Streets.length c2)) (hc:m_bylaw_Check b=some 0)
 (hgi:GIW Tryz.prog w):Calls Tryz.prog 4 #[.agg #[.slice a1 b.Versions.length c1, .slice a2 b.Streets.length c2]] w fun e w'=>e= .returned (.tuple #[.string ⟨(printL b).toArray⟩, .int .i64 0])∧Below w.heap.size w w':=by
 obtain⟨wa,Ha⟩:∃wa:World,Hid (wa=(w.alloc (.cells #[.slice a1 b.Versions.length c1, .slice a2 b.Streets.length c2] 25))):=⟨_,Lib.hid rfl⟩;have hba:Below w.heap.size w wa:=by rw [Ha.out];exact(Below.refl _ _).alloc (Nat.le_refl _) _
 have hga:=GIW.below hgi hba;have hm:∀q,ok q→ok q∧wa.heap[q]?=w.heap[q]?:=fun q hq=>⟨hq,hba.block q (hok q hq)⟩
 have hchk:Calls Tryz.prog 10 #[.agg #[.slice a1 b.Versions.length c1, .slice a2 b.Streets.length c2]] wa fun e w'=>e= .returned (.int .i64 0)∧Below wa.heap.size wa w':=by
  refine(d_bylaw_Check b 0 hc ok wa [.agg #[.slice a1 b.Versions.length c1, .slice a2 b.Streets.length c2]] ⟨?_,trivial⟩ (fun q hq=>by have:=hok q hq;have:=hba.size;omega) hga).mono fun e w' ⟨v,r,he,hq,hrep,hb⟩=>⟨?_,hb⟩
  · simp only [Rep];exact⟨_,rfl,⟨Rep.mono hm _ _ h1,Rep.mono hm _ _ h2,trivial⟩,rfl⟩
  · subst hq;simp only [DI,Rep]at hrep;rw [he,hrep.1]
 have hca:wa.heap[w.heap.size]?=some (.cells #[.slice a1 b.Versions.length c1, .slice a2 b.Streets.length c2] 25 (0,0)):=by rw [Ha.out];exact(MapKept.heap_alloc w _).1
 have hsa:wa.heap.size=w.heap.size+1:=by rw [Ha.out];simp
 obtain⟨nv,Hnv⟩:∃nv,Hid (nv=b.Versions.length):=⟨_,Lib.hid rfl⟩;obtain⟨ns,Hns⟩:∃ns,Hid (ns=b.Streets.length):=⟨_,Lib.hid rfl⟩;rw [←Hnv.out,←Hns.out]at hchk hca Ha⊢
 go_enter Tryz.func4,Tryz.ntmps4
 go_wp2_with fail
 rw [←Ha.out];refine hchk.mono ?_;rintro e w1 ⟨rfl,hb1⟩;clear hchk;have hg1:=GIW.below hga hb1;have hc1:w1.heap[w.heap.size]?=some (.cells #[.slice a1 nv c1, .slice a2 ns c2] 25 (0,0)):=(hb1.block _ (by omega)).trans hca;have e0:w1.cell? ⟨w.heap.size,0,none⟩=some (.slice a1 nv c1):=by rw [Lib.cell_of_heap hc1];rfl
 have e1:w1.cell? ⟨w.heap.size,1,none⟩=some (.slice a2 ns c2):=by rw [Lib.cell_of_heap hc1];rfl
 have hwM:w.heap.size<w1.heap.size:=by have:=hb1.size;omega
 go_wp2_with fail
 go_loopw [18] (fun i wr=>PrV w1.heap.size w1 (.slice a1 nv c1) (.slice a2 ns c2) w.heap.size b.Versions i wr) (fun i _=>nv-(RowKit.intOf i).toNat)
 case atStart=>
  refine⟨0,rfl,Nat.zero_le _, ?_, ?_, ?_, ?_⟩
  · exact Lib.fresh_isBuilder 38 5 w1
  · exact(Below.refl _ _).alloc (Nat.le_refl _) _
  · simp
  · rw [Lib.alloc_old _ _ _ hwM];exact hc1
 case round=>
  obtain⟨k,rfl,hk,hI⟩:=hrel;have hgr:=GIW.below hg1 hI.bel;by_cases hlt:k<b.Versions.length
  · have hki:(k:Int)<(nv:Int):=by have:=Hnv.out;omega
    have hkn:k<nv:=by have:=Hnv.out;omega
    have hn3:nv≤1000:=by have:=Hnv.out;have:=hb.2.2.1;omega
    obtain⟨bb,oo,rfl,hbb,hcl⟩:=cells_at TVersion.c verC (fun _ _ xs l hr=>ints_of TVersion.c verN (fun _=>rfl) l xs hr) (fun _=>rfl) (by decide) h1 hlt;have hsm:=hb.1 _ (List.getElem_mem hlt);obtain⟨v,Hv⟩:∃v,Hid (v=b.Versions[k]):=⟨_,Lib.hid rfl⟩;rw [←Hv.out]at hcl hsm;obtain⟨ms,Hms⟩:∃ms,Hid (ms=verN v):=⟨_,Lib.hid rfl⟩;have hml:ms.length=11:=by rw [Hms.out];rfl
    rw [←Hms.out]at hsm
    have hcl2:∀j,j<11→wr.cell? ⟨bb,oo+k*11+j,none⟩=(ms.map (Value.int .i64))[j]?:=fun j hj=>by
     have hq:=hok bb hbb;have:wr.cell? ⟨bb,oo+k*11+j,none⟩=w.cell? ⟨bb,oo+k*11+j,none⟩:=(hba.trans ((hb1.mono (by omega)).trans (hI.bel.mono (by have:=hb1.size;omega)))).cell hq;rw [this,hcl j hj,Hms.out];rfl
    clear hcl
    have hlen:(linesV (b.Versions.take k)).length≤200000:=by
     have:=linesV_len (b.Versions.take k) (fun v hv=>hb.1 v (List.mem_of_mem_take hv));have:=hb.2.2.1;rw [List.length_take]at*;omega
    have hrow:∀W:World,W.heap[wr.heap.size+1]?=some (.cells (ms.map (Value.int .i64)).toArray 3 (0,0))→GIW Tryz.prog W→Calls Tryz.prog 12 #[.string ⟨#[118,101,114,115,105,111,110]⟩, .slice (some ⟨wr.heap.size+1,0,none⟩) 11 11] W fun e w'=>e= .returned (.string ⟨(rowL wV ms++ [10]).toArray⟩)∧Below W.heap.size W w':=fun W h g=>by
     have:=row_c wordV (by decide) ms (by omega) hsm (wr.heap.size+1) W (0,0) h g;rw [hml]at this;exact this
    have hstep:=fun W3 W4 (hq:Below wr.heap.size wr W3) h2 h3=>hI.step (l:=rowL wV ms++ [10]) (W3:=W3) (W4:=W4) hq h2 h3 (by have:=hb1.size;omega)
    have hR:∀W4,PrI w1.heap.size w1 W4 (.slice _ nv c1) (.slice _ ns c2) w.heap.size (linesV (b.Versions.take k)++(rowL wV ms++ [10]))→PrV w1.heap.size w1 (.slice (some ⟨bb,oo,none⟩) nv c1) (.slice a2 ns c2) w.heap.size b.Versions (.int .i64 ((k+1:Nat):Int)) W4:=fun W4 h=>by
     refine⟨k+1,rfl,hlt, ?_⟩
     have e:linesV (b.Versions.take (k+1))=linesV (b.Versions.take k)++(rowL wV ms++ [10]):=by
      rw [List.take_succ_eq_append_getElem hlt,Hms.out,Hv.out];unfold linesV;simp only [List.flatMap_append,List.flatMap_cons,List.flatMap_nil,List.append_nil]
     rw [e];exact h
    have HRL:Hid (∀row,row=rowL wV ms++ [10]→row.length≤200):=Lib.hid fun row hr=>by
     have:=rowL_len wV ms 6 fun n hn=>small_len (hsm n hn)
     have e:wV.length=7:=rfl;rw [hr,List.length_append,List.length_singleton];rw [hml,e]at this;omega
    obtain⟨m0,m1,m2,m3,m4,m5,m6,m7,m8,m9,m10,rfl⟩:=list11 hml;have d0:wr.cell? ⟨bb,oo+k*11,none⟩=some (.int .i64 m0):=hcl2 0 (by decide);have d1:wr.cell? ⟨bb,oo+k*11+1,none⟩=some (.int .i64 m1):=hcl2 1 (by decide);have d2:wr.cell? ⟨bb,oo+k*11+2,none⟩=some (.int .i64 m2):=hcl2 2 (by decide);have d3:wr.cell? ⟨bb,oo+k*11+3,none⟩=some (.int .i64 m3):=hcl2 3 (by decide);have d4:wr.cell? ⟨bb,oo+k*11+4,none⟩=some (.int .i64 m4):=hcl2 4 (by decide);have d5:wr.cell? ⟨bb,oo+k*11+5,none⟩=some (.int .i64 m5):=hcl2 5 (by decide);have d6:wr.cell? ⟨bb,oo+k*11+6,none⟩=some (.int .i64 m6):=hcl2 6 (by decide);have d7:wr.cell? ⟨bb,oo+k*11+7,none⟩=some (.int .i64 m7):=hcl2 7 (by decide);have d8:wr.cell? ⟨bb,oo+k*11+8,none⟩=some (.int .i64 m8):=hcl2 8 (by decide);have d9:wr.cell? ⟨bb,oo+k*11+9,none⟩=some (.int .i64 m9):=hcl2 9 (by decide);have d10:wr.cell? ⟨bb,oo+k*11+10,none⟩=some (.int .i64 m10):=hcl2 10 (by decide);have HROW:=Lib.hid hrow;have HST:=Lib.hid hstep;have HR:=Lib.hid hR;have HI:=Lib.hid hI;clear hrow hstep hR hI hcl2 hsm
    go_wp2_with fail
    refine(HROW.out _ (alloc2_at wr _ _) (GIW.below hgr (alloc2_below wr _ _))).mono ?_;rintro e w3 ⟨rfl,hb3⟩;have hb13:Below wr.heap.size wr w3:=(alloc2_below wr _ _).trans (hb3.mono (by rw [asz,asz];omega));have hB3:=isb_below HI.out.bld hb13;have hs3:w1.heap.size≤w3.heap.size:=by have:=HI.out.sz;have:=hb13.size;omega
    clear hb3;obtain⟨row,Hrow⟩:∃row:List UInt8,Hid (row=rowL wV [m0,m1,m2,m3,m4,m5,m6,m7,m8,m9,m10]++ [10]):=⟨_,Lib.hid rfl⟩;have hrl:row.length≤200:=HRL.out row Hrow.out;rw [←Hrow.out]at HST HR⊢;have hsz:(⟨row.toArray⟩:ByteArray).size=row.length:=rfl
    go_wp2_with fail
    refine(bwrite w1.heap.size w1.heap.size _ ⟨row.toArray⟩ w3 hB3 (by rw [Lib.byteCells_length];omega) hs3).mono ?_;rintro e w4 ⟨rfl,h2,h3,h4⟩;have R:=HR.out _ (HST.out w3 w4 hb13 h2 h3);clear h2 h3 h4 hB3 hb13
    go_wp2
    go_roundw
    case rel=>exact R
    case measure=>simp [RowKit.intOf];omega
  · have hkv:nv=k:=by have:=Hnv.out;omega
    subst hkv;have htk:b.Versions.take nv=b.Versions:=by rw [Hnv.out,List.take_length]
    have hI2:=hI;rw [htk]at hI2;have f0:wr.cell? ⟨w.heap.size,0,none⟩=some (.slice a1 nv c1):=by rw [Lib.cell_of_heap hI.box];rfl
    have f1:wr.cell? ⟨w.heap.size,1,none⟩=some (.slice a2 ns c2):=by rw [Lib.cell_of_heap hI.box];rfl
    have HI2:=Lib.hid hI2;clear hI hI2
    go_wp2
    go_loopw [55] (fun i wr=>PrS w1.heap.size w1 (.slice a1 nv c1) (.slice a2 ns c2) w.heap.size (linesV b.Versions) b.Streets i wr) (fun i _=>ns-(RowKit.intOf i).toNat)
    case atStart=>exact⟨0,rfl,Nat.zero_le _,by have:=HI2.out;rw [List.take_zero];unfold linesS;rw [List.flatMap_nil,List.append_nil];exact this⟩
    case round=>
     obtain⟨k,rfl,hk,hI⟩:=hrel;have hgr:=GIW.below hg1 hI.bel;by_cases hlt:k<b.Streets.length
     · have hki:(k:Int)<(ns:Int):=by have:=Hns.out;omega
       have hkn:k<ns:=by have:=Hns.out;omega
       have hn3:ns≤1000:=by have:=Hns.out;have:=hb.2.2.2;omega
       obtain⟨bb,oo,rfl,hbb,hcl⟩:=cells_at TStreet.c strC (fun _ _ xs l hr=>ints_of TStreet.c strN (fun _=>rfl) l xs hr) (fun _=>rfl) (by decide) h2 hlt;have hsm:=hb.2.1 _ (List.getElem_mem hlt);obtain⟨v,Hv⟩:∃v,Hid (v=b.Streets[k]):=⟨_,Lib.hid rfl⟩;rw [←Hv.out]at hcl hsm;obtain⟨ms,Hms⟩:∃ms,Hid (ms=strN v):=⟨_,Lib.hid rfl⟩;have hml:ms.length=5:=by rw [Hms.out];rfl
       rw [←Hms.out]at hsm
       have hcl2:∀j,j<5→wr.cell? ⟨bb,oo+k*5+j,none⟩=(ms.map (Value.int .i64))[j]?:=fun j hj=>by
        have hq:=hok bb hbb;have:wr.cell? ⟨bb,oo+k*5+j,none⟩=w.cell? ⟨bb,oo+k*5+j,none⟩:=(hba.trans ((hb1.mono (by omega)).trans (hI.bel.mono (by have:=hb1.size;omega)))).cell hq;rw [this,hcl j hj,Hms.out];rfl
       clear hcl
       have hlen:(linesV b.Versions++linesS (b.Streets.take k)).length≤200000:=by
        have:=linesS_len (b.Streets.take k) (fun v hv=>hb.2.1 v (List.mem_of_mem_take hv));have:=linesV_len b.Versions hb.1;have:=hb.2.2.1;have:=hb.2.2.2;rw [List.length_append];rw [List.length_take]at*;omega
       have hrow:∀W:World,W.heap[wr.heap.size+1]?=some (.cells (ms.map (Value.int .i64)).toArray 3 (0,0))→GIW Tryz.prog W→Calls Tryz.prog 12 #[.string ⟨#[115,116,114,101,101,116]⟩, .slice (some ⟨wr.heap.size+1,0,none⟩) 5 5] W fun e w'=>e= .returned (.string ⟨(rowL wS ms++ [10]).toArray⟩)∧Below W.heap.size W w':=fun W h g=>by
        have:=row_c wordS (by decide) ms (by omega) hsm (wr.heap.size+1) W (0,0) h g;rw [hml]at this;exact this
       have hstep:=fun W3 W4 (hq:Below wr.heap.size wr W3) h2 h3=>hI.step (l:=rowL wS ms++ [10]) (W3:=W3) (W4:=W4) hq h2 h3 (by have:=hb1.size;omega)
       have hR:∀W4,PrI w1.heap.size w1 W4 (.slice _ nv c1) (.slice _ ns c2) w.heap.size (linesV b.Versions++linesS (b.Streets.take k)++(rowL wS ms++ [10]))→PrS w1.heap.size w1 (.slice a1 nv c1) (.slice (some ⟨bb,oo,none⟩) ns c2) w.heap.size (linesV b.Versions) b.Streets (.int .i64 ((k+1:Nat):Int)) W4:=fun W4 h=>by
        refine⟨k+1,rfl,hlt, ?_⟩
        have e:linesS (b.Streets.take (k+1))=linesS (b.Streets.take k)++(rowL wS ms++ [10]):=by
         rw [List.take_succ_eq_append_getElem hlt,Hms.out,Hv.out];unfold linesS;simp only [List.flatMap_append,List.flatMap_cons,List.flatMap_nil,List.append_nil]
        rw [e];rw [←List.append_assoc];exact h
       have HRL:Hid (∀row,row=rowL wS ms++ [10]→row.length≤200):=Lib.hid fun row hr=>by
        have:=rowL_len wS ms 6 fun n hn=>small_len (hsm n hn)
        have e:wS.length=6:=rfl;rw [hr,List.length_append,List.length_singleton];rw [hml,e]at this;omega
       obtain⟨m0,m1,m2,m3,m4,rfl⟩:=list5 hml;have d0:wr.cell? ⟨bb,oo+k*5,none⟩=some (.int .i64 m0):=hcl2 0 (by decide);have d1:wr.cell? ⟨bb,oo+k*5+1,none⟩=some (.int .i64 m1):=hcl2 1 (by decide);have d2:wr.cell? ⟨bb,oo+k*5+2,none⟩=some (.int .i64 m2):=hcl2 2 (by decide);have d3:wr.cell? ⟨bb,oo+k*5+3,none⟩=some (.int .i64 m3):=hcl2 3 (by decide);have d4:wr.cell? ⟨bb,oo+k*5+4,none⟩=some (.int .i64 m4):=hcl2 4 (by decide);have HROW:=Lib.hid hrow;have HST:=Lib.hid hstep;have HR:=Lib.hid hR;have HI:=Lib.hid hI;clear hrow hstep hR hI hcl2 hsm
       go_wp2_with fail
       refine(HROW.out _ (alloc2_at wr _ _) (GIW.below hgr (alloc2_below wr _ _))).mono ?_;rintro e w3 ⟨rfl,hb3⟩;have hb13:Below wr.heap.size wr w3:=(alloc2_below wr _ _).trans (hb3.mono (by rw [asz,asz];omega));have hB3:=isb_below HI.out.bld hb13;have hs3:w1.heap.size≤w3.heap.size:=by have:=HI.out.sz;have:=hb13.size;omega
       clear hb3;obtain⟨row,Hrow⟩:∃row:List UInt8,Hid (row=rowL wS [m0,m1,m2,m3,m4]++ [10]):=⟨_,Lib.hid rfl⟩;have hrl:row.length≤200:=HRL.out row Hrow.out;rw [←Hrow.out]at HST HR⊢;have hsz:(⟨row.toArray⟩:ByteArray).size=row.length:=rfl
       go_wp2_with fail
       refine(bwrite w1.heap.size w1.heap.size _ ⟨row.toArray⟩ w3 hB3 (by rw [Lib.byteCells_length];omega) hs3).mono ?_;rintro e w4 ⟨rfl,h2,h3,h4⟩;have R:=HR.out _ (HST.out w3 w4 hb13 h2 h3);clear h2 h3 h4 hB3 hb13
       go_wp2
       go_roundw
       case rel=>exact R
       case measure=>simp [RowKit.intOf];omega
     · have hkv:ns=k:=by have:=Hns.out;omega
       subst hkv;have htk:b.Streets.take ns=b.Streets:=by rw [Hns.out,List.take_length]
       have hB:=hI.bld;rw [htk]at hB;have hbel:=hI.bel;have hs3:w1.heap.size≤wr.heap.size:=by have:=hI.sz;omega
       clear hI
       go_wp2_with fail
       refine(bstring2 w1.heap.size w1.heap.size _ wr hB hs3).mono ?_;rintro e w5 ⟨rfl,hb5⟩;have hbf:Below w.heap.size w w5:=hba.trans ((hb1.mono (by omega)).trans ((hbel.mono (by have:=hb1.size;omega)).trans (hb5.mono (by have:=hb1.size;omega))))
       have hpl:linesV b.Versions++linesS b.Streets=printL b:=by
        unfold printL rowsB linesV linesS;rw [List.flatMap_append,List.flatMap_map,List.flatMap_map]
       rw [hpl];clear hpl hB hbel hb5
       go_wp2
       go_ret2
       exact⟨rfl,hbf⟩
set_option maxRecDepth 100000
set_option maxHeartbeats 8000000
theorem print_bad (b:TBylaw) (e0:Int) (he0:e0≠0) (v1 v2:Value) (w:World) (ok:Nat→Prop) (hok:∀q,ok q→q<w.heap.size) (h1:Rep ok w (lD 11 b.Versions TVersion.c) v1) (h2:Rep ok w (lD 5 b.Streets TStreet.c) v2) (hc:m_bylaw_Check b=some e0)
 (hgi:GIW Tryz.prog w):Calls Tryz.prog 4 #[.agg #[v1,v2]] w fun e w'=>e= .returned (.tuple #[.string ⟨#[]⟩, .int .i64 e0])∧Below w.heap.size w w':=by
 obtain⟨wa,Ha⟩:∃wa:World,Hid (wa=(w.alloc (.cells #[v1,v2] 25))):=⟨_,Lib.hid rfl⟩;have hba:Below w.heap.size w wa:=by rw [Ha.out];exact(Below.refl _ _).alloc (Nat.le_refl _) _
 have hga:=GIW.below hgi hba;have hm:∀q,ok q→ok q∧wa.heap[q]?=w.heap[q]?:=fun q hq=>⟨hq,hba.block q (hok q hq)⟩
 have hchk:Calls Tryz.prog 10 #[.agg #[v1,v2]] wa fun e w'=>e= .returned (.int .i64 e0)∧Below wa.heap.size wa w':=by
  refine(d_bylaw_Check b e0 hc ok wa [.agg #[v1,v2]] ⟨?_,trivial⟩ (fun q hq=>by have:=hok q hq;have:=hba.size;omega) hga).mono fun e w' ⟨v,r,he,hq,hrep,hb⟩=>⟨?_,hb⟩
  · simp only [Rep];exact⟨_,rfl,⟨Rep.mono hm _ _ h1,Rep.mono hm _ _ h2,trivial⟩,rfl⟩
  · subst hq;simp only [DI,Rep]at hrep;rw [he,hrep.1]
 have hsa:wa.heap.size=w.heap.size+1:=by rw [Ha.out];simp
 obtain⟨a1,n1,c1,rfl⟩:∃a n c,v1= .slice a n c:=by
  simp only [lD,Rep]at h1;obtain⟨a,c,he,_⟩:=h1;exact⟨_,_,_,he⟩
 obtain⟨a2,n2,c2,rfl⟩:∃a n c,v2= .slice a n c:=by
  simp only [lD,Rep]at h2;obtain⟨a,c,he,_⟩:=h2;exact⟨_,_,_,he⟩
 clear h1 h2 hc hm
 go_enter Tryz.func4,Tryz.ntmps4
 go_wp2_with fail
 rw [←Ha.out];refine hchk.mono ?_;rintro e w1 ⟨rfl,hb1⟩;clear hchk
 go_wp2
 go_ret2
 exact⟨rfl,hba.trans (hb1.mono (by omega))⟩
def smallB (b:TBylaw):Bool:=(b.Versions.all fun v=>(verN v).all fun n=>decide (0≤n)&&decide (n<1000000))&&((b.Streets.all fun v=>(strN v).all fun n=>decide (0≤n)&&decide (n<1000000))&&(decide (b.Versions.length≤1000)&&decide (b.Streets.length≤1000)))
theorem smallB_iff (b:TBylaw):smallB b=true↔SmallB b:=by
 simp [smallB,SmallB,Small]
def m_bylaw_Print (b:TBylaw):Option (ByteArray×Int):=Option.bind (m_bylaw_Check b) fun e=>if(e !=0)=true then some (⟨#[]⟩,e)else gd (smallB b=true) (some (⟨(printL b).toArray⟩,0))
theorem d_bylaw_Print (b:TBylaw) (r:ByteArray×Int) (hm:m_bylaw_Print b=some r):Does Tryz.prog 4 [.agg (TBylaw.c b)] (fun x=>x= .tup [.v (.string r.1),DI r.2]):=by
 intro ok w vs hr hok hgi;obtain⟨e,he,hm⟩:=bd_some hm
 match vs,hr with
 | [v],hr=>
 obtain⟨hr,_⟩:=hr;simp only [Rep]at hr;obtain⟨⟨a⟩,rfl,hr,_⟩:=hr
 match a,hr with
 | [v1,v2],hr=>
 obtain⟨h1,h2,_⟩:=hr;by_cases h0:e=0
 · subst h0;simp only [bne_self_eq_false,Bool.false_eq_true,if_false]at hm;obtain⟨hg,hm⟩:=gd_some hm;cases hm;have h1':=h1;have h2':=h2;simp only [lD,Rep]at h1' h2';obtain⟨a1,c1,rfl,_⟩:=h1';obtain⟨a2,c2,rfl,_⟩:=h2';exact(print_any b ((smallB_iff b).1 hg) a1 a2 c1 c2 0 0 0 0 w ok hok h1 h2 he hgi).mono fun e w' ⟨he,hb⟩=>⟨_,_,he,rfl,⟨_,rfl,⟨rfl,rfl⟩,⟨rfl,rfl⟩,trivial⟩,hb⟩
 · rw [if_pos (by simpa using h0)]at hm
   cases hm;exact(print_bad b e h0 v1 v2 w ok hok h1 h2 he hgi).mono fun e w' ⟨he,hb⟩=>⟨_,_,he,rfl,⟨_,rfl,⟨rfl,rfl⟩,⟨rfl,rfl⟩,trivial⟩,hb⟩
end Go.Proofs.YtejkiefdjcfapaaGreatDoor
