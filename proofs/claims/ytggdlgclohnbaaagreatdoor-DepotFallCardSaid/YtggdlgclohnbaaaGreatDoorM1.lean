/- What may be read at the types of the statement's parameters; plain facts. -/
import Derived.Test.YtggdlgclohnbaaaGreatDoorL2
set_option linter.unusedVariables false
set_option linter.unusedSimpArgs false
namespace Go.Proofs.YtggdlgclohnbaaaGreatDoor
open Go Go.RowKit Go.Sx
theorem op_46:Opens Tryz.prog 46 (fun(x:(Int×Int×Int×Int×Int))=> [DI x.1,DI x.2.1,DI x.2.2.1,DI x.2.2.2.1,DI x.2.2.2.2]) (fun x:(Int×Int×Int×Int×Int)=>(InK .i64 x.1∧InK .i64 x.2.1∧InK .i64 x.2.2.1∧InK .i64 x.2.2.2.1∧InK .i64 x.2.2.2.2)):=
 (Opens.arr Tryz.underlying46 (OpensA.cons (s:=1) (Opens.int Tryz.underlying3) (OpensA.cons (s:=1) (Opens.int Tryz.underlying3) (OpensA.cons (s:=1) (Opens.int Tryz.underlying3) (OpensA.cons (s:=1) (Opens.int Tryz.underlying3) (OpensA.last (s:=1) (Opens.int Tryz.underlying3) rfl (by kernel_rfl) rfl) rfl (by kernel_rfl)) rfl (by kernel_rfl)) rfl (by kernel_rfl)) rfl (by kernel_rfl)) (by kernel_rfl)).iso (fun x=>x) (fun _=>rfl) (fun _ h=>h)
theorem op_25:Opens Tryz.prog 25 (fun l:(List Int)=> [.lst 1 l.length (l.flatMap cI)]) (fun l=>(l.length*8≤reachBytes∧l.length≤maxLen∧∀y:Int,y∈l→InK .i64 y)):=
 Opens.slice Tryz.underlying25 (Opens.int Tryz.underlying3) (by kernel_rfl) (by kernel_rfl) (fun _=>rfl) (fun _=>rfl) (by decide)
def TDeed.G (x:TDeed):Prop:=InK .i64 x.Kind∧(InK .i64 x.Record.1∧InK .i64 x.Record.2.1∧InK .i64 x.Record.2.2.1∧InK .i64 x.Record.2.2.2.1∧InK .i64 x.Record.2.2.2.2)∧(x.Picks.length*8≤reachBytes∧x.Picks.length≤maxLen∧∀y:Int,y∈x.Picks→InK .i64 y)
theorem op_48:Opens Tryz.prog 48 TDeed.c TDeed.G:=
 (Opens.struct Tryz.underlying48 (OpensF.cons (s:=1) (Opens.int Tryz.underlying3) (OpensF.cons (s:=5) op_46 (OpensF.last (s:=1) op_25 rfl (by kernel_rfl) rfl) rfl (by kernel_rfl)) rfl (by kernel_rfl)) (by kernel_rfl)).iso (fun x=>(⟨x.1,x.2.1,x.2.2⟩:TDeed)) (fun _=>rfl) (fun _ h=>h)
theorem op_44:Opens Tryz.prog 44 (fun l:(List TDeed)=> [.lst 7 l.length (l.flatMap TDeed.c)]) (fun l=>(l.length*72≤reachBytes∧l.length≤maxLen∧∀y:TDeed,y∈l→TDeed.G y)):=
 Opens.slice Tryz.underlying44 op_48 (by kernel_rfl) (by kernel_rfl) (fun _=>rfl) (fun _=>rfl) (by decide)
end Go.Proofs.YtggdlgclohnbaaaGreatDoor
namespace Go.Proofs.YtggdlgclohnbaaaGreatDoor
open Go Go.Sx
theorem W_id {z:Int} (h: -9223372036854775808≤z∧z≤9223372036854775807):W z=z:=wrap_id h
theorem W_s {k:Nat} (h:k<9223372036854775807):W ((k:Int)+1)=((k+1:Nat):Int):=wrap_s h
def runL {α σ R:Type} (f:σ→α→Sum σ R):List α→σ→Sum σ R
 | [],s=> .inl s
 |x::l,s=>match f s x with| .inl s'=>runL f l s'| .inr r=> .inr r
theorem loop_list {α σ S E R:Type} {body:S→Option (Sum S E)} (l:List α) (hl:l.length≤9223372036854775807) (enc:Nat→σ→S) (f:σ→α→Sum σ R) (out:R→E) (fin:σ→E) (P:List α→σ→Prop)
 (h:∀pre x post s,l=pre++x::post→P pre s→body (enc pre.length s)=some (match f s x with| .inl s'=> .inl (enc (pre.length+1) s')| .inr r=> .inr (out r))∧∀s',f s x= .inl s'→P (pre++ [x]) s')
 (he:∀s,P l s→body (enc l.length s)=some (.inr (fin s))) (s0:σ) (h0:P [] s0):
 loopF body (enc 0 s0)=some (match runL f l s0 with| .inl s=>fin s| .inr r=>out r):=by
 have key:∀(post pre:List α) (s:σ) (n:Nat),l=pre++post→P pre s→post.length<n→loopO body n (enc pre.length s)=some (match runL f post s with| .inl s=>fin s| .inr r=>out r):=by
  intro post
  induction post with
  |nil=>
   intro pre s n hp hs hn
   cases n with
   |zero=>omega
   |succ n=>
    simp only [List.append_nil]at hp
    subst hp
    simp only [loopO,he s hs,runL]
  |cons x post ih=>
   intro pre s n hp hs hn
   cases n with
   |zero=>omega
   |succ n=>
    obtain⟨h1,h2⟩:=h pre x post s hp hs
    simp only [loopO,h1,runL]
    cases hf:f s x with
    |inl s'=>
     have:=ih (pre++ [x]) s' n (by simp [hp]) (h2 s' hf) (by simp at hn;omega)
     simpa using this
    |inr r=>rfl
 exact key l [] s0 FUEL rfl h0 (by unfold FUEL;omega)
theorem idx_pre {α:Type} {pre post:List α} {x:α}:idx (pre++x::post) (pre.length:Int)=some x:=by
 unfold idx;simp
theorem lt_pre {α:Type} {pre post:List α} {x:α}:((pre.length:Int)<((pre++x::post).length:Int)):=by simp;omega
theorem loopI_list {α β S E:Type} {body:S→Option (List β×Sum S E)} (l:List α) (hl:l.length≤9223372036854775807) (enc:Nat→S) (em:α→List β) (fin:E)
 (h:∀pre x post,l=pre++x::post→body (enc pre.length)=some (em x, .inl (enc (pre.length+1))))
 (he:body (enc l.length)=some ([], .inr fin)):loopIF body (enc 0)=some (l.flatMap em,fin):=by
 have key:∀(post pre:List α) (n:Nat),l=pre++post→post.length<n→loopIO body n (enc pre.length)=some (post.flatMap em,fin):=by
  intro post
  induction post with
  |nil=>
   intro pre n hp hn
   cases n with
   |zero=>omega
   |succ n=>
    simp only [List.append_nil]at hp
    subst hp
    simp only [loopIO,he,List.flatMap_nil]
  |cons x post ih=>
   intro pre n hp hn
   cases n with
   |zero=>omega
   |succ n=>
    have:=ih (pre++ [x]) n (by simp [hp]) (by simp at hn;omega)
    simp only [List.length_append,List.length_cons,List.length_nil,Nat.zero_add]at this
    simp only [loopIO,h pre x post hp,this,List.flatMap_cons]
 exact key l [] FUEL rfl (by unfold FUEL;omega)
def scan {R:Type} (q:Nat→Option R):Nat→Nat→Sum Nat R
 |k,0=> .inl k
 |k,m+1=>match q k with|none=>scan q (k+1) m|some r=> .inr r
theorem loop_scan {R:Type} {body:Int→Option (Sum Int (Sum Int R))} (n:Nat) (hn:n≤9223372036854775807) (q:Nat→Option R) (k:Nat) (hk:k≤n)
 (h:∀i,k≤i→i<n→body (i:Int)=some (match q i with|none=> .inl ((i+1:Nat):Int)|some r=> .inr (.inr r)))
 (he:body (n:Int)=some (.inr (.inl (n:Int)))):
 loopF body (k:Int)=some (match scan q k (n-k)with| .inl j=> .inl (j:Int)| .inr r=> .inr r):=by
 have key:∀(m k N:Nat),k+m=n→m<N→(∀i,k≤i→i<n→body (i:Int)=some (match q i with|none=> .inl ((i+1:Nat):Int)|some r=> .inr (.inr r)))→
  loopO body N (k:Int)=some (match scan q k m with| .inl j=> .inl (j:Int)| .inr r=> .inr r):=by
  intro m
  induction m with
  |zero=>
   intro k N hkm hN _
   cases N with
   |zero=>omega
   |succ N=>
    have:k=n:=by omega
    subst this
    simp only [loopO,he,scan]
  |succ m ih=>
   intro k N hkm hN hb
   cases N with
   |zero=>omega
   |succ N=>
    simp only [loopO,hb k (Nat.le_refl _) (by omega),scan]
    cases hq:q k with
    |none=>exact ih (k+1) N (by omega) (by omega) (fun i h1 h2=>hb i (by omega) h2)
    |some r=>rfl
 exact key (n-k) k FUEL (by omega) (by unfold FUEL;omega) h
theorem scan_none {R:Type} {q:Nat→Option R}:∀(m k:Nat),(∀i,k≤i→i<k+m→q i=none)→scan q k m= .inl (k+m)
 |0,k,_=>rfl
 |m+1,k,h=>by
  simp only [scan,h k (Nat.le_refl _) (by omega)]
  rw [scan_none m (k+1) (fun i h1 h2=>h i (by omega) (by omega))]
  congr 1;omega
theorem scan_some {R:Type} {q:Nat→Option R}:∀(m k i:Nat),k≤i→i<k+m→q i≠none→∃j r,k≤j∧j<k+m∧q j=some r∧scan q k m= .inr r
 |0,k,i,h1,h2,_=>by omega
 |m+1,k,i,h1,h2,h3=>by
  cases hq:q k with
  |some r=>exact⟨k,r,Nat.le_refl _,by omega,hq,by simp only [scan,hq]⟩
  |none=>
   have:k≠i:=fun e=>h3 (e▸hq)
   obtain⟨j,r,a,b,c,d⟩:=scan_some m (k+1) i (by omega) (by omega) h3
   exact⟨j,r,by omega,by omega,c,by simp only [scan,hq,d]⟩
theorem loop_all {body:Int→Option (Sum Int (Sum Int Bool))} (n:Nat) (hn:n≤9223372036854775807) (q:Nat→Prop) [DecidablePred q] (k:Nat) (hk:k≤n)
 (h:∀i,k≤i→i<n→body (i:Int)=some (if q i then .inl ((i+1:Nat):Int)else .inr (.inr false)))
 (he:body (n:Int)=some (.inr (.inl (n:Int)))) (ans:Bool) (hb:ans=true↔∀i,k≤i→i<n→q i):
 (loopF body (k:Int)).bind (fun e=>match e with| .inl _=>some true| .inr r=>some r)=some ans:=by
 rw [loop_scan n hn (fun i=>if q i then none else some false) k hk (fun i h1 h2=>by rw [h i h1 h2];by_cases hq:q i<;>simp [hq]) he]
 by_cases hall:∀i,k≤i→i<n→q i
 · rw [scan_none _ _ (fun i h1 h2=>by simp [hall i h1 (by omega)])]
   simp only [Option.bind_some,hb.2 hall]
 · have:∃i,k≤i∧i<n∧¬q i:=by
    refine Classical.byContradiction fun hn2=>hall fun i h1 h2=>Classical.byContradiction fun h3=>hn2 ⟨i,h1,h2,h3⟩
   obtain⟨i,h1,h2,h3⟩:=this
   obtain⟨j,r,a,b,c,d⟩:=scan_some (q:=fun i=>if q i then none else some false) (n-k) k i h1 (by omega) (by simp [h3])
   have hr:r=false:=by
    by_cases hqj:q j
    · simp [hqj]at c
    · simpa [hqj]using c.symm
   rw [d,hr]
   have:ans=false:=by cases ans with|true=>exact absurd (hb.1 rfl) hall|false=>rfl
   simp only [Option.bind_some,this]
theorem loop_all2 {body:Int→Option (Sum Int (Sum Int Bool))} (n:Nat) (hn:n≤9223372036854775807) (q:Nat→Prop) (k:Nat) (hk:k≤n)
 (h:∀i,k≤i→i<n→(q i∧body (i:Int)=some (.inl ((i+1:Nat):Int)))∨(¬q i∧body (i:Int)=some (.inr (.inr false))))
 (he:body (n:Int)=some (.inr (.inl (n:Int)))) (ans:Bool) (hb:ans=true↔∀i,k≤i→i<n→q i):
 (loopF body (k:Int)).bind (fun e=>match e with| .inl _=>some true| .inr r=>some r)=some ans:=by
 letI:DecidablePred q:=fun _=>Classical.propDecidable _
 exact loop_all n hn q k hk (fun i h1 h2=>by rcases h i h1 h2 with⟨a,b⟩|⟨a,b⟩<;>simp only [b,a,if_true,if_false]) he ans hb
theorem gd_t {α:Type} {p:Prop} [Decidable p] {k:Option α} (h:p):gd p k=k:=if_pos h
end Go.Proofs.YtggdlgclohnbaaaGreatDoor
namespace Go.Proofs.YtggdlgclohnbaaaGreatDoor
open Go Go.Sx
def preD (u:Nat):List UInt8:=if u<10 then []else Lib.decDigits (u / 10)
theorem dec_pre (u:Nat):Lib.decDigits u=preD u++ [UInt8.ofNat (48+u % 10)]:=by
 unfold preD
 rw [Lib.decDigits]
 by_cases h:u<10
 · simp [h,Nat.mod_eq_of_lt h]
 · simp [h]
theorem within_eq (n lo hi:Int):m_depot_within n lo hi=some (decide (lo≤n∧n≤hi)):=by
 unfold m_depot_within
 by_cases h:lo≤n<;>simp [h]
def ItemOK (x:TItem):Prop:=(0≤x.Depot∧x.Depot≤5)∧0≤x.No∧x.No≤9999
instance (x : TItem) : Decidable (ItemOK x) := inferInstanceAs (Decidable (_ ∧ _))
theorem isItem_eq (x:TItem):m_depot_isItem x=some (decide (ItemOK x)):=by
 unfold m_depot_isItem m_depot_isDepot
 simp only [within_eq,Option.bind_some]
 unfold ItemOK
 by_cases h:0≤x.Depot∧x.Depot≤5
 · simp only [h,decide_true,if_true,true_and,and_self]
 · simp only [h,decide_false,Bool.false_eq_true,if_false,false_and]
def TextOK (s:ByteArray):Prop:=s.size≤160∧∀c∈s.data.toList,32≤c.toNat∧c.toNat≤126
instance (s : ByteArray) : Decidable (TextOK s) := inferInstanceAs (Decidable (_ ∧ _))
theorem sz_data (s:ByteArray):s.size=s.data.toList.length:=by rw [Array.length_toList];rfl
theorem isText_eq (s:ByteArray) (hs:s.size≤9223372036854775807):m_depot_isText s=some (decide (TextOK s)):=by
 unfold m_depot_isText
 rw [gd_t hs]
 simp only [Option.bind_some]
 have hlen:(bytesI s).length=s.size:=by unfold bytesI;rw [List.length_map,←sz_data]
 have key:=loop_scan (body:=m_depot_isText_L1 (bytesI s)) (bytesI s).length (by omega) (fun i=>match s.data.toList[i]? with|some c=>if 32≤c.toNat∧c.toNat≤126 then none else some false|none=>none) 0 (Nat.zero_le _) (fun i _ hi=>by
  unfold m_depot_isText_L1
  have hi':i<s.data.toList.length:=by rw [←sz_data];omega
  rw [if_pos (by simpa using hi),idx_n hi,Option.bind_some,List.getElem?_eq_getElem hi']
  have e:(bytesI s)[i]=((s.data.toList[i]).toNat:Int):=by simp [bytesI]
  rw [e,W_s (by omega)]
  simp only
  by_cases h1:(s.data.toList[i]).toNat<32
  · rw [if_pos (by simp only [decide_eq_true_eq];omega),if_neg (by omega)]
  · by_cases h2:(s.data.toList[i]).toNat>126
    · rw [if_neg (by simp only [decide_eq_true_eq];omega),if_pos (by simp only [decide_eq_true_eq];omega),if_neg (by omega)]
    · rw [if_neg (by simp only [decide_eq_true_eq];omega),if_neg (by simp only [decide_eq_true_eq];omega),if_pos (by omega)]) (by unfold m_depot_isText_L1;rw [if_neg (by simp)])
 rw [show((0:Int))=((0:Nat):Int) from rfl,key]
 by_cases hall:∀c∈s.data.toList,32≤c.toNat∧c.toNat≤126
 · rw [scan_none _ _ fun i _ hi=>by
    have hi':i<s.data.toList.length:=by rw [←sz_data];omega
    rw [List.getElem?_eq_getElem hi']
    exact if_pos (hall _ (List.getElem_mem hi'))]
   simp only [Option.bind_some]
   congr 1
   rw [decide_eq_decide]
   exact⟨fun h=>⟨by omega,hall⟩,fun h=>by have:=h.1;omega⟩
 · obtain⟨c,hc,hbad⟩:∃c∈s.data.toList,¬(32≤c.toNat∧c.toNat≤126):=by
    refine Classical.byContradiction fun h=>hall fun c hc=>Classical.byContradiction fun h2=>h ⟨c,hc,h2⟩
   obtain⟨i,hi,rfl⟩:=List.getElem_of_mem hc
   obtain⟨j,r,_,hj,hq,e⟩:=scan_some (q:=fun i=>match s.data.toList[i]? with|some c=>if 32≤c.toNat∧c.toNat≤126 then none else some false|none=>none) ((bytesI s).length-0) 0 i (Nat.zero_le _) (by rw [hlen,sz_data];omega) (by
    rw [List.getElem?_eq_getElem hi];simp only;rw [if_neg hbad];simp)
   have hr:r=false:=by
    split at hq
    · split at hq<;>simp at hq;exact hq
    · cases hq
   rw [e,hr]
   have:¬TextOK s:=fun h=>hall h.2
   simp [this]
def RecOK (r:TRecord):Prop:=ItemOK r.At∧(0≤r.Kind∧r.Kind≤60)∧(0≤r.Day∧r.Day≤100000)∧(0≤r.Known∧r.Known≤100000)∧TextOK r.Text∧
 (if r.Kind=0 then r.Day=0∧r.Text=⟨#[]⟩∧ItemOK r.Of∧r.Of.Depot=r.At.Depot∧r.Of.No<r.At.No else r.Of=⟨0,0⟩)
instance (r : TRecord) : Decidable (RecOK r) := by unfold RecOK; infer_instance
theorem txt_eq (a b:ByteArray):(a.toList==b.toList)=decide (a=b):=by
 rw [Bool.eq_iff_iff,beq_iff_eq,decide_eq_true_iff]
 constructor
 · intro h
   have h2:a.data.toList=b.data.toList:=by rw [ByteArray.toList_eq,ByteArray.toList_eq]at h;exact h
   exact ByteArray.ext (Array.ext' h2)
 · intro h;rw [h]
theorem isRecord_eq (r:TRecord) (hs:r.Text.size≤9223372036854775807):m_depot_isRecord r=some (decide (RecOK r)):=by
 unfold m_depot_isRecord m_depot_isNight
 simp only [within_eq,isItem_eq,isText_eq _ hs,Option.bind_some,txt_eq]
 unfold RecOK
 by_cases h1:ItemOK r.At
 · by_cases h2:0≤r.Kind∧r.Kind≤60
   · by_cases h3:0≤r.Day∧r.Day≤100000
     · by_cases h4:0≤r.Known∧r.Known≤100000
       · by_cases h5:TextOK r.Text
         · simp only [h1,h2,h3,h4,h5,decide_true,Bool.not_true,Bool.false_eq_true,if_false,true_and,and_self]
           by_cases hk:r.Kind=0
           · simp only [hk,beq_self_eq_true,if_true]
             by_cases h6:r.Day=0
             · by_cases h7:r.Text=⟨#[]⟩
               · by_cases h8:ItemOK r.Of
                 · by_cases h9:r.Of.Depot=r.At.Depot<;>simp [h6,h7,h8,h9]
                 · simp [h6,h7,h8]
               · simp [h6,h7]
             · simp [h6]
           · have:(r.Kind==0)=false:=by simpa using hk
             simp only [this,hk,Bool.false_eq_true,if_false]
             congr 1
             rw [Bool.eq_iff_iff]
             simp only [Bool.and_eq_true,beq_iff_eq,decide_eq_true_eq]
             constructor
             · rintro⟨a,b⟩;cases hof:r.Of;simp_all
             · intro h;rw [h];simp
         · simp [h1,h2,h3,h4,h5]
       · simp only [h1,h2,h3,h4,decide_true,decide_false,Bool.not_true,Bool.not_false,Bool.false_eq_true,if_false,if_true,true_and,false_and,and_false,and_self]
     · simp only [h1,h2,h3,decide_true,decide_false,Bool.not_true,Bool.not_false,Bool.false_eq_true,if_false,if_true,true_and,false_and,and_false,and_self]
   · simp only [h1,h2,decide_true,decide_false,Bool.not_true,Bool.not_false,Bool.false_eq_true,if_false,if_true,true_and,false_and,and_false,and_self]
 · simp [h1]
def WholeP (c:TCard):Prop:=(0≤c.No∧c.No≤59)∧(1≤c.Parts∧c.Parts≤10)∧(0≤c.Part∧c.Part≤c.Parts-1)∧(1≤c.Size∧c.Size≤24)∧(c.Text.size:Int)=c.Size
instance (c : TCard) : Decidable (WholeP c) := by unfold WholeP; infer_instance
theorem isWhole_eq (c:TCard):m_depot_isWhole c=some (decide (WholeP c)):=by
 unfold m_depot_isWhole
 simp only [within_eq,Option.bind_some]
 unfold WholeP
 by_cases h1:0≤c.No∧c.No≤59
 · by_cases h2:1≤c.Parts∧c.Parts≤10
   · rw [W_id (z:=c.Parts-1) (by omega)]
     by_cases h3:0≤c.Part∧c.Part≤c.Parts-1
     · by_cases h4:1≤c.Size∧c.Size≤24
       · simp only [h1,h2,h3,h4,decide_true,if_true,true_and,and_self]
         congr 1
       · simp only [h1,h2,h3,h4,decide_true,decide_false,if_true,Bool.false_eq_true,if_false,true_and,and_self,false_and]
     · simp only [h1,h2,h3,decide_true,decide_false,if_true,Bool.false_eq_true,if_false,true_and,and_self,false_and]
   · simp only [h1,h2,decide_true,decide_false,if_true,Bool.false_eq_true,if_false,true_and,and_self,false_and]
 · simp only [h1,decide_false,Bool.false_eq_true,if_false,false_and]
end Go.Proofs.YtggdlgclohnbaaaGreatDoor
namespace Go.Proofs.YtggdlgclohnbaaaGreatDoor
open Go Go.Sx
theorem itoaB_size (n:Int) (h0:0≤n) (h1:n≤1000000):(itoaB n).size≤21:=by
 have:=Lib.itoa_length_le n (by omega) (by omega)
 unfold itoaB
 rw [sz_data];simpa using this
theorem recNs_ok {r:TRecord} (h:RecOK r):∀n∈recNs r,0≤n∧n≤100000:=by
 obtain⟨⟨⟨a1,a2⟩,a3,a4⟩,⟨b1,b2⟩,⟨c1,c2⟩,⟨d1,d2⟩,_,hif⟩:=h
 have hof:(0≤r.Of.Depot∧r.Of.Depot≤5)∧0≤r.Of.No∧r.Of.No≤9999:=by
  split at hif
  · exact hif.2.2.1
  · rw [hif];simp
 intro n hn
 simp only [recNs,List.mem_cons,List.not_mem_nil,or_false]at hn
 rcases hn with rfl|rfl|rfl|rfl|rfl|rfl|rfl<;>omega
theorem rec_text {r:TRecord} (h:RecOK r):r.Text.size≤160:=h.2.2.2.2.1.1
theorem encode_eq {r:TRecord} (h:RecOK r):m_depot_encode r=some (encB r):=by
 unfold m_depot_encode
 exact gd_t ⟨fun n hn=>by have:=recNs_ok h n hn;omega,by have:=rec_text h;omega⟩
theorem encB_eq (r:TRecord):encB r=itoaB r.At.Depot++⟨#[32]⟩++itoaB r.At.No++⟨#[32]⟩++itoaB r.Kind++⟨#[32]⟩++itoaB r.Day++⟨#[32]⟩++itoaB r.Known++⟨#[32]⟩++itoaB r.Of.Depot++⟨#[32]⟩++itoaB r.Of.No++⟨#[32]⟩++r.Text:=by
 apply ByteArray.ext
 apply Array.ext'
 simp [encB,encL,recNs,itoaB]
def DV (l:List UInt8):Nat:=l.foldl (fun a c=>10*a+(c.toNat-48)) 0
theorem DV_snoc (l:List UInt8) (c:UInt8):DV (l++ [c])=10*DV l+(c.toNat-48):=by simp [DV]
def Dig (c:UInt8):Prop:=48≤c.toNat∧c.toNat≤57
theorem dig_of {k:Nat} (h:k<10):(UInt8.ofNat (48+k)).toNat=48+k:=by simp;omega
theorem dec_dig (u:Nat):(∀c∈Lib.decDigits u,Dig c)∧DV (Lib.decDigits u)=u∧Lib.decDigits u≠ []:=by
 induction u using Nat.strongRecOn with
 |_ u ih=>
  rw [dec_pre]
  have h10:u % 10<10:=Nat.mod_lt _ (by omega)
  have hl:=dig_of h10
  unfold preD
  by_cases h:u<10
  · rw [if_pos h]
    refine⟨fun c hc=> ?_, ?_,by simp⟩
    · simp only [List.nil_append,List.mem_singleton]at hc
      subst hc;unfold Dig;omega
    · rw [DV_snoc,hl];simp [DV];omega
  · rw [if_neg h]
    obtain⟨i1,i2,_⟩:=ih (u / 10) (by omega)
    refine⟨fun c hc=> ?_, ?_,by simp⟩
    · rcases List.mem_append.1 hc with hc|hc
      · exact i1 c hc
      · simp only [List.mem_singleton]at hc
        subst hc;unfold Dig;omega
    · rw [DV_snoc,hl,i2];omega
theorem dec_len {u k:Nat} (h:u<10^k) (hk:0<k):(Lib.decDigits u).length≤k:=by
 induction k generalizing u with
 |zero=>omega
 |succ k ih=>
  rw [dec_pre]
  unfold preD
  by_cases h9:u<10
  · rw [if_pos h9];simp
  · rw [if_neg h9]
    have hk0:0<k:=by
     cases k with
     |zero=>simp at h;omega
     |succ k=>omega
    have:=ih (u:=u / 10) (by rw [Nat.pow_succ]at h;exact Nat.div_lt_of_lt_mul (by omega)) hk0
    simp;omega
end Go.Proofs.YtggdlgclohnbaaaGreatDoor
namespace Go.Proofs.YtggdlgclohnbaaaGreatDoor
open Go Go.Sx
theorem loop_fn {S E:Type} {body:S→Option (Sum S E)} (st:Nat→S) (n:Nat) (hn:n≤9223372036854775807) (fin:E) (h:∀k,k<n→body (st k)=some (.inl (st (k+1)))) (he:body (st n)=some (.inr fin)):loopF body (st 0)=some fin:=by
 have key:∀(m k N:Nat),k+m=n→m<N→loopO body N (st k)=some fin:=by
  intro m
  induction m with
  |zero=>
   intro k N hk hN
   cases N with
   |zero=>omega
   |succ N=>
    obtain rfl:k=n:=by omega
    simp only [loopO,he]
  |succ m ih=>
   intro k N hk hN
   cases N with
   |zero=>omega
   |succ N=>
    simp only [loopO,h k (by omega)]
    exact ih (k+1) N (by omega) (by omega)
 exact key n 0 FUEL (by omega) (by unfold FUEL;omega)
theorem encB_list (r:TRecord):(encB r).data.toList=encL (recNs r)++r.Text.data.toList:=by
 unfold encB
 rw [ByteArray.data_append]
 simp
theorem enc_size {r:TRecord} (h:RecOK r):(encB r).size≤400:=by
 have hn:=recNs_ok h
 simp only [recNs,List.mem_cons,List.not_mem_nil,or_false,forall_eq_or_imp,forall_eq]at hn
 obtain⟨n1,n2,n3,n4,n5,n6,n7⟩:=hn
 have s1:=itoaB_size r.At.Depot n1.1 (by omega)
 have s2:=itoaB_size r.At.No n2.1 (by omega)
 have s3:=itoaB_size r.Kind n3.1 (by omega)
 have s4:=itoaB_size r.Day n4.1 (by omega)
 have s5:=itoaB_size r.Known n5.1 (by omega)
 have s6:=itoaB_size r.Of.Depot n6.1 (by omega)
 have s7:=itoaB_size r.Of.No n7.1 (by omega)
 have hs:(⟨#[32]⟩:ByteArray).size=1:=rfl
 have ht:=rec_text h
 rw [encB_eq]
 generalize itoaB r.At.Depot=x1 at s1⊢
 generalize itoaB r.At.No=x2 at s2⊢
 generalize itoaB r.Kind=x3 at s3⊢
 generalize itoaB r.Day=x4 at s4⊢
 generalize itoaB r.Known=x5 at s5⊢
 generalize itoaB r.Of.Depot=x6 at s6⊢
 generalize itoaB r.Of.No=x7 at s7⊢
 generalize r.Text=x8 at ht⊢
 generalize (⟨#[32]⟩:ByteArray)=sp at hs⊢
 simp only [ByteArray.size_append,hs];omega
def zR:TRecord:=⟨⟨0,0⟩,0,0,0,⟨0,0⟩,⟨#[]⟩⟩
end Go.Proofs.YtggdlgclohnbaaaGreatDoor
namespace Go.Proofs.YtggdlgclohnbaaaGreatDoor
open Go Go.Sx
theorem index_at:∀(d post:List UInt8),(∀c∈d,c≠32)→Lib.indexByte (d++32::post) 32=d.length
 | [],post,_=>by simp [Lib.indexByte]
 |c::d,post,h=>by
  have ih:=index_at d post fun x hx=>h x (List.mem_cons_of_mem _ hx)
  have hc:=h c List.mem_cons_self
  simp only [List.cons_append,Lib.indexByte,ih]
  rw [if_neg (by simpa using hc),if_neg (by simp)]
  simp
theorem parse_snoc:∀(l:List UInt8) (acc:Nat) (c:UInt8),Lib.parseUint10 acc (l++ [c])=match Lib.parseUint10 acc l with| .ok a=>Lib.parseUint10 a [c]|e=>e
 | [],acc,c=>rfl
 |x::l,acc,c=>by
  simp only [List.cons_append,Lib.parseUint10]
  split
  · split
    · rfl
    · split
      · rfl
      · exact parse_snoc l _ c
  · rfl
theorem parse_dec (u:Nat) (hu:u<1000000000000000000):Lib.parseUint10 0 (Lib.decDigits u)= .ok u:=by
 induction u using Nat.strongRecOn with
 |_ u ih=>
  have h10:u % 10<10:=Nat.mod_lt _ (by omega)
  have hl:=dig_of h10
  rw [dec_pre,parse_snoc]
  have hp:Lib.parseUint10 0 (preD u)= .ok (u / 10):=by
   unfold preD
   by_cases h:u<10
   · rw [if_pos h,Nat.div_eq_of_lt h];rfl
   · rw [if_neg h];exact ih _ (by omega) (by omega)
  rw [hp]
  simp only [Lib.parseUint10,hl]
  rw [if_pos (by omega),if_neg (by omega),if_neg (by omega)]
  congr 1;omega
theorem atoi_dec (u:Nat) (hu:u<1000000000000000000):Lib.atoiAll (Lib.decDigits u)= .ok (u:Int):=by
 obtain⟨d1,_,d3⟩:=dec_dig u
 have hp:=parse_dec u hu
 cases hd:Lib.decDigits u with
 |nil=>exact absurd hd d3
 |cons c r=>
  have hc:Dig c:=d1 c (by rw [hd];exact List.mem_cons_self)
  unfold Dig at hc
  unfold Lib.atoiAll Lib.parseMag
  rw [hd]at hp
  simp only
  rw [if_neg (show¬(c.toNat=43∨c.toNat=45) by omega),if_neg (by simp),hp]
  simp only
  rw [if_neg (by omega),if_neg (by omega),if_neg (by omega)]
theorem numR_ok (s:ByteArray) (u:Nat) (hu:u<1000000000000000000) (post:List UInt8) (hs:s.data.toList=Lib.decDigits u++32::post):numR s=some ((u:Int),⟨post.toArray⟩):=by
 obtain⟨d1,_,d3⟩:=dec_dig u
 have hi:=index_at (Lib.decDigits u) post fun c hc e=>by have:=d1 c hc;subst e;unfold Dig at this;simp at this
 have hsz:=sz_data s
 have hlen:=congrArg List.length hs
 simp only [List.length_append,List.length_cons]at hlen
 unfold numR cutP
 rw [hs,hi,if_pos (by omega)]
 have e1:(s.extract 0 (Lib.decDigits u).length).data.toList=Lib.decDigits u:=by
  rw [ByteArray.data_extract]
  simp only [Array.toList_extract,List.extract_eq_take_drop,hs,List.drop_zero,Nat.sub_zero,List.take_left]
 have e2:s.extract ((Lib.decDigits u).length+1) s.size=⟨post.toArray⟩:=by
  apply ByteArray.ext
  apply Array.ext'
  rw [ByteArray.data_extract]
  simp only [Array.toList_extract,List.extract_eq_take_drop,hs]
  rw [show(Lib.decDigits u).length+1=(Lib.decDigits u++ [32]).length by simp,show Lib.decDigits u++32::post=(Lib.decDigits u++ [32])++post by simp,List.drop_left,List.take_of_length_le (by simp;omega)]
 simp only [Int.toNat_natCast,e1,atoi_dec u hu,e2]
theorem decN_ok {r:TRecord} (h:RecOK r):∀k,k≤7→decN k (encB r)=some ((recNs r).take k,⟨(encL ((recNs r).drop k)++r.Text.data.toList).toArray⟩)
 |0,_=>by
  simp only [decN,List.take_zero,List.drop_zero]
  congr 2
 |k+1,hk=>by
  have hk':k<(recNs r).length:=hk
  have hn:=recNs_ok h _ (List.getElem_mem hk')
  obtain⟨u,hu⟩:=Int.eq_ofNat_of_zero_le hn.1
  simp only [decN,decN_ok h k (by omega)]
  have:=numR_ok ⟨(encL ((recNs r).drop k)++r.Text.data.toList).toArray⟩ u (by omega) (encL ((recNs r).drop (k+1))++r.Text.data.toList) (by
   rw [List.drop_eq_getElem_cons hk',hu]
   simp only [encL,List.flatMap_cons,Lib.itoa_nonneg]
   simp)
  rw [this]
  simp only
  rw [List.take_succ_eq_append_getElem hk',hu]
theorem dec_yes {r:TRecord} (h:RecOK r):m_depot_decode (encB r)=some (r,true):=by
 have hz:=enc_size h
 unfold m_depot_decode
 rw [gd_t (by omega),decN_ok h 7 (Nat.le_refl _)]
 have e1:(recNs r).take 7=recNs r:=rfl
 have e2:(⟨(encL ((recNs r).drop 7)++r.Text.data.toList).toArray⟩:ByteArray)=r.Text:=by
  apply ByteArray.ext
  apply Array.ext'
  simp [recNs,encL]
 have e3:recOf (recNs r) r.Text=r:=rfl
 simp only [e1,e2,e3]
 rw [isRecord_eq r (by have:=rec_text h;omega),Option.bind_some,if_pos (by simpa using h),encode_eq h,Option.bind_some,txt_eq]
 simp
theorem dec_no (s:ByteArray) (hs:s.size≤281474976710656) (h:∀r,RecOK r→encB r≠s):m_depot_decode s=some (zR,false):=by
 unfold m_depot_decode
 rw [gd_t hs]
 cases hd:decN 7 s with
 |none=>rfl
 |some p=>
  obtain⟨l,t⟩:=p
  have ht:=(decN_len hd).2
  simp only
  have hT:(recOf l t).Text.size≤9223372036854775807:=by show t.size≤_;omega
  rw [isRecord_eq _ hT,Option.bind_some]
  by_cases hok:RecOK (recOf l t)
  · rw [if_pos (by simpa using hok),encode_eq hok,Option.bind_some,txt_eq]
    have:=h _ hok
    rw [if_neg (by simpa using this)];rfl
  · rw [if_neg (by simpa using hok)];rfl
end Go.Proofs.YtggdlgclohnbaaaGreatDoor
namespace Go.Proofs.YtggdlgclohnbaaaGreatDoor
open Go Go.Sx
def partsN (n:Nat):Nat:=(n+23) / 24
def pieceB (s:ByteArray) (i:Nat):ByteArray:=s.extract (24*i) (min s.size (24*(i+1)))
def cardB (s:ByteArray) (no:Int) (i:Nat):TCard:=⟨no,(i:Int),((partsN s.size:Nat):Int),((pieceB s i).size:Int),pieceB s i⟩
def cardsF (s:ByteArray) (no:Int):List TCard:=(List.range (partsN s.size)).map (cardB s no)
theorem cardsF_len (s:ByteArray) (no:Int):(cardsF s no).length=partsN s.size:=by simp [cardsF]
theorem parts_le {n:Nat} (h:n≤400):partsN n≤17:=by unfold partsN;omega
theorem bytes_back (l:List UInt8):(l.map fun b=>(b.toNat:Int)).map (fun n=>UInt8.ofNat n.toNat)=l:=by
 rw [List.map_map]
 conv=>rhs;rw [←List.map_id l]
 apply List.map_congr_left
 intro c _
 simp
theorem sub_bytes (s:ByteArray) (a b:Nat):bstr (sub (bytesI s) a b)=s.extract a b:=by
 apply ByteArray.ext
 apply Array.ext'
 unfold bstr bytesI sub
 rw [ByteArray.data_extract,←List.map_drop,←List.map_take]
 simp only [bytes_back,Array.toList_extract,List.extract_eq_take_drop]
theorem sub_len2 (s:ByteArray) (a b:Nat) (h:b≤s.size):(sub (bytesI s) a b).length=b-a:=by
 have:(bytesI s).length=s.size:=by unfold bytesI;rw [List.length_map,←sz_data]
 unfold sub;simp;omega
theorem range_mid {n:Nat} {pre post:List Nat} {x:Nat} (h:List.range n=pre++x::post):x=pre.length∧pre.length<n:=by
 have h1:(List.range n)[pre.length]?=some x:=by rw [h];simp
 have h2:=List.getElem?_eq_some_iff.1 h1
 obtain⟨g1,g2⟩:=h2
 simp at g1 g2
 exact⟨g2.symm,g1⟩
theorem chunk_eq (s:ByteArray) (hz:s.size≤400):it_slices_Chunk_byte_byte_1 (bytesI s) 24=some ((List.range (partsN s.size)).map fun i=>sub (bytesI s) (24*i) (min s.size (24*(i+1))),()):=by
 have hb:(bytesI s).length=s.size:=by unfold bytesI;rw [List.length_map,←sz_data]
 have hP:partsN s.size≤17:=parts_le hz
 unfold it_slices_Chunk_byte_byte_1
 have key:=loopI_list (body:=it_slices_Chunk_byte_byte_1_L1 (bytesI s) 24) (List.range (partsN s.size)) (by simp;omega) (fun k=>((24*k:Nat):Int)) (fun i=> [sub (bytesI s) (24*i) (min s.size (24*(i+1)))]) ((24*partsN s.size:Nat):Int) (fun pre x post hx=>by
  obtain⟨rfl,hlt⟩:=range_mid hx
  generalize pre.length=k at hlt⊢
  have hk24:24*k<s.size:=by unfold partsN at hlt;omega
  unfold it_slices_Chunk_byte_byte_1_L1
  rw [if_pos (by simp only [decide_eq_true_eq];omega),gd_t (by omega),Option.bind_some,Int.toNat_natCast]
  have hl:(sub (bytesI s) (24*k) (bytesI s).length).length=s.size-24*k:=by rw [hb];exact sub_len2 s _ _ (Nat.le_refl _)
  have e:W (((24*k:Nat):Int)+(if((sub (bytesI s) (24*k) (bytesI s).length).length:Int)<24 then((sub (bytesI s) (24*k) (bytesI s).length).length:Int)else 24))=((min s.size (24*(k+1)):Nat):Int):=by
   rw [hl]
   split
   · rw [W_id (by omega)];omega
   · rw [W_id (by omega)];omega
  rw [e,gd_t (by omega),Option.bind_some,Int.toNat_natCast]
  have e2:W (((24*k:Nat):Int)+24)=((24*(k+1):Nat):Int):=by rw [W_id (by omega)];omega
  rw [e2];rfl) (by
  unfold it_slices_Chunk_byte_byte_1_L1
  rw [List.length_range,if_neg (by simp only [decide_eq_true_eq];unfold partsN;omega)])
 have key2:loopIF (it_slices_Chunk_byte_byte_1_L1 (bytesI s) 24) 0=_:=key
 rw [key2]
 simp [bindI,List.flatMap_singleton']
 induction List.range (partsN s.size)with
 |nil=>rfl
 |cons x l ih=>simp [ih]
def rawC (no:Int):Nat→List (List Int)→List TCard
 |_, []=> []
 |k,y::l=>⟨no,(k:Int),0,(y.length:Int),bstr y⟩::rawC no (k+1) l
theorem raw_eq (no:Int):∀(l:List (List Int)) (acc:List TCard),acc.length+l.length≤1000→rangeF (m_depot_cards_L1 no) l acc=some (.inl (acc++rawC no acc.length l))
 | [],acc,_=>by simp [rangeF,rawC]
 |y::l,acc,h=>by
  simp only [List.length_cons]at h
  simp only [rangeF,m_depot_cards_L1]
  rw [gd_t (by simp;omega)]
  simp only
  rw [raw_eq no l _ (by simp;omega)]
  simp [rawC]
theorem raw_len (no:Int):∀(l:List (List Int)) (k:Nat),(rawC no k l).length=l.length
 | [],_=>rfl
 |y::l,k=>by simp [rawC,raw_len no l]
theorem raw_get (no:Int):∀(l:List (List Int)) (k i:Nat) (h:i<l.length),(rawC no k l)[i]?=some ⟨no,((k+i:Nat):Int),0,(l[i].length:Int),bstr l[i]⟩
 |y::l,k,0,h=>by simp [rawC]
 |y::l,k,i+1,h=>by
  simp only [rawC,List.getElem?_cons_succ,List.getElem_cons_succ]
  rw [raw_get no l (k+1) i (by simpa using h)]
  congr 2;omega
theorem setP_eq (v:List TCard) (hv:v.length≤1000):loopF (m_depot_cards_L2 v) (0,v)=some ((v.length:Int),v.map fun c=>⟨c.No,c.Part,(v.length:Int),c.Size,c.Text⟩):=by
 have key:=loop_fn (body:=m_depot_cards_L2 v) (fun k=>((k:Int),(v.take k).map (fun c=>(⟨c.No,c.Part,(v.length:Int),c.Size,c.Text⟩:TCard))++v.drop k)) v.length (by omega) ((v.length:Int),v.map fun c=>⟨c.No,c.Part,(v.length:Int),c.Size,c.Text⟩) (fun k hk=>by
  unfold m_depot_cards_L2
  dsimp only
  rw [if_pos (by simp only [decide_eq_true_eq];omega)]
  have hlen:((v.take k).map (fun c=>(⟨c.No,c.Part,(v.length:Int),c.Size,c.Text⟩:TCard))++v.drop k).length=v.length:=by simp;omega
  have hidx:idx ((v.take k).map (fun c=>(⟨c.No,c.Part,(v.length:Int),c.Size,c.Text⟩:TCard))++v.drop k) (k:Int)=some v[k]:=by
   rw [idx_n (by omega)]
   rw [List.getElem_append_right (by simp;omega)]
   simp [Nat.min_eq_left (Nat.le_of_lt hk)]
  rw [hidx,Option.bind_some,Option.bind_some,W_s (by omega),hlen,Int.toNat_natCast]
  congr 3
  rw [List.set_append_right _ _ (by simp;omega)]
  simp only [List.length_map,List.length_take,Nat.min_eq_left (Nat.le_of_lt hk),Nat.sub_self]
  rw [List.drop_eq_getElem_cons hk,List.set_cons_zero,List.take_succ_eq_append_getElem hk,List.map_append,List.append_assoc]
  rfl) (by
  unfold m_depot_cards_L2
  dsimp only
  rw [if_neg (by simp),List.take_length,List.drop_length,List.append_nil])
 rw [List.take_zero,List.drop_zero,List.map_nil,List.nil_append]at key
 exact key
theorem dcards_eq {r:TRecord} (h:RecOK r) (no:Int):m_depot_cards r no=some (cardsF (encB r) no):=by
 have hz:=enc_size h
 unfold m_depot_cards m_slices_Chunk_byte_byte
 rw [encode_eq h,Option.bind_some]
 generalize encB r=s at hz⊢
 have hP:partsN s.size≤17:=parts_le hz
 rw [gd_t (by omega),Option.bind_some,if_neg (by decide),Option.bind_some]
 dsimp only
 rw [chunk_eq s hz,Option.bind_some]
 dsimp only
 rw [raw_eq no _ _ (by simp;omega),Option.bind_some]
 dsimp only
 rw [setP_eq _ (by simp [raw_len];omega),Option.bind_some]
 dsimp only
 congr 1
 apply List.ext_getElem?
 intro i
 simp only [List.nil_append,List.getElem?_map,List.length_nil]
 by_cases hi:i<partsN s.size
 · rw [raw_get no _ 0 i (by simpa using hi)]
   simp only [cardsF,List.getElem?_map,List.getElem_map,List.getElem_range,List.getElem?_range hi,Option.map_some,raw_len,List.length_map,List.length_range,Nat.zero_add]
   congr 1
   unfold cardB
   have hb:=sub_bytes s (24*i) (min s.size (24*(i+1)))
   have hl:=sub_len2 s (24*i) (min s.size (24*(i+1))) (by omega)
   have hl2:(pieceB s i).size=min s.size (24*(i+1))-24*i:=by unfold pieceB;rw [ByteArray.size_extract];omega
   rw [hb,hl,hl2];rfl
 · rw [List.getElem?_eq_none (by simp [raw_len];omega),List.getElem?_eq_none (by rw [cardsF_len];omega)];rfl
end Go.Proofs.YtggdlgclohnbaaaGreatDoor
namespace Go.Proofs.YtggdlgclohnbaaaGreatDoor
open Go Go.Sx
theorem card_beq (a b:TCard):((a.No==b.No)&&((a.Part==b.Part)&&((a.Parts==b.Parts)&&((a.Size==b.Size)&&(a.Text.toList==b.Text.toList)))))=decide (a=b):=by
 rw [Bool.eq_iff_iff,txt_eq]
 simp only [Bool.and_eq_true,beq_iff_eq,decide_eq_true_eq]
 cases a;cases b
 simp
theorem rec_beq (a b:TRecord):((a.At.Depot==b.At.Depot)&&((a.At.No==b.At.No)&&((a.Kind==b.Kind)&&((a.Day==b.Day)&&((a.Known==b.Known)&&((a.Of.Depot==b.Of.Depot)&&((a.Of.No==b.Of.No)&&(a.Text.toList==b.Text.toList))))))))=decide (a=b):=by
 rw [Bool.eq_iff_iff,txt_eq]
 simp only [Bool.and_eq_true,beq_iff_eq,decide_eq_true_eq]
 obtain⟨⟨a1,a2⟩,a3,a4,a5,⟨a6,a7⟩,a8⟩:=a
 obtain⟨⟨b1,b2⟩,b3,b4,b5,⟨b6,b7⟩,b8⟩:=b
 simp [and_assoc]
theorem same_loop {α:Type} [DecidableEq α] {body:(Bool×Int)→Option (Sum (Bool×Int) (Bool×Int))} (a b:List α) (hl:a.length≤9223372036854775800)
 (h1:∀(i:Nat) (hi:i<a.length) (hj:i<b.length),body (true,(i:Int))=some (.inl (decide (a[i]=b[i]),((i+1:Nat):Int))))
 (h2:∀i:Nat,body (false,(i:Int))=some (.inr (false,(i:Int)))) (h3:body (true,(a.length:Int))=some (.inr (true,(a.length:Int)))):
 Option.bind (loopF body (((a.length:Int)==(b.length:Int)),0)) (fun(x:Bool×Int)=>match x with|(same,_)=>some same)=some (decide (a=b)):=by
 by_cases hab:a.length=b.length
 · obtain⟨e,he,i,rfl⟩:=loop_rule (body:=body) (fun st=>∃(i:Nat),i≤a.length∧st.2=(i:Int)∧(st.1=true→a.take i=b.take i)∧(st.1=false→a≠b)) (fun st=>2*a.length+2-(2*st.2.toNat+if st.1 then 0 else 1))
    (fun e=>∃i:Int,e=(decide (a=b),i)) (by
    rintro⟨s,_⟩ ⟨i,hi,rfl,ht,hf⟩
    cases s with
    |false=>
     left
     refine⟨_,h2 i,i, ?_⟩
     have:=hf rfl
     simp [this]
    |true=>
     have ht:=ht rfl
     rcases Nat.lt_or_ge i a.length with h|h
     · right
       refine⟨_,h1 i h (by omega),⟨i+1,h,rfl,fun hd=> ?_,fun hd e=> ?_⟩, ?_⟩
       · rw [List.take_succ_eq_append_getElem h,List.take_succ_eq_append_getElem (by omega),ht,of_decide_eq_true hd]
       · subst e;simp at hd
       · simp only [Int.toNat_natCast]
         split<;>simp<;>omega
     · left
       obtain rfl:i=a.length:=by omega
       refine⟨_,h3,(a.length:Int), ?_⟩
       have:a=b:=by
        rw [List.take_length,hab,List.take_length]at ht;exact ht
       simp [this]) (((a.length:Int)==(b.length:Int)),0) ⟨0,Nat.zero_le _,rfl,fun _=>rfl,fun h=>by rw [hab]at h;simp at h⟩ (by unfold FUEL;simp only;omega)
   rw [he];rfl
 · have e:((a.length:Int)==(b.length:Int))=false:=by rw [beq_eq_false_iff_ne];omega
   rw [e]
   have:loopF body (false,0)=some (false,0):=by
    have:=loop_fn (body:=body) (fun _=>(false,(0:Int))) 0 (by omega) (false,0) (fun k hk=>by omega) (h2 0)
    exact this
   rw [this]
   have hne:a≠b:=fun e=>hab (by rw [e])
   simp [hne]
theorem SameRecords_eq (a b:List TRecord) (hl:a.length≤9223372036854775800):m_R08_SameRecords a b=some (decide (a=b)):=by
 unfold m_R08_SameRecords
 refine same_loop a b hl (fun i hi hj=> ?_) (fun i=> ?_) ?_
 · unfold m_R08_SameRecords_L1
   dsimp only
   rw [if_pos (by simp only [decide_eq_true_eq];omega),if_pos rfl,idx_n hi,idx_n hj,Option.bind_some,Option.bind_some,rec_beq,W_s (by omega)]
 · unfold m_R08_SameRecords_L1
   dsimp only
   split<;>rfl
 · unfold m_R08_SameRecords_L1
   dsimp only
   rw [if_neg (by simp)]
theorem Equal_eq (a b:List TCard) (hl:a.length≤9223372036854775800):m_slices_Equal_api_Card_api_Card a b=some (decide (a=b)):=by
 unfold m_slices_Equal_api_Card_api_Card
 by_cases hab:a.length=b.length
 · rw [if_neg (by simp [hab])]
   refine loop_all2 a.length (by omega) (fun i=>a[i]?=b[i]?) 0 (Nat.zero_le _) (fun i _ hi=> ?_) ?_ _ ?_
   · unfold m_slices_Equal_api_Card_api_Card_L1
     rw [if_pos (by simp only [decide_eq_true_eq];omega),idx_n hi,idx_n (show i<b.length by omega),Option.bind_some,Option.bind_some,card_beq,W_s (by omega),List.getElem?_eq_getElem hi,List.getElem?_eq_getElem (show i<b.length by omega)]
     by_cases h:a[i]=b[i]'(by omega)
     · left;refine⟨by rw [h], ?_⟩;rw [if_neg (by simp [h])]
     · right;refine⟨by simpa using h, ?_⟩;rw [if_pos (by simp [h])]
   · unfold m_slices_Equal_api_Card_api_Card_L1
     rw [if_neg (by simp)]
   · rw [decide_eq_true_iff]
     constructor
     · intro h i _ _;rw [h]
     · intro h
       apply List.ext_getElem?
       intro i
       by_cases hi:i<a.length
       · exact h i (Nat.zero_le _) hi
       · rw [List.getElem?_eq_none (by omega),List.getElem?_eq_none (by omega)]
 · rw [if_pos (by simpa using (by omega:(a.length:Int)≠(b.length:Int)))]
   have:a≠b:=fun e=>hab (by rw [e])
   simp [this]
end Go.Proofs.YtggdlgclohnbaaaGreatDoor
namespace Go.Proofs.YtggdlgclohnbaaaGreatDoor
open Go Go.Sx
abbrev I6:=Int×Int×Int×Int×Int×Int
def cnt (l:List TRecord) (d:Int):Nat:=l.countP fun r=>r.At.Depot==d
def cntT (l:List TRecord):I6:=((cnt l 0:Nat),(cnt l 1:Nat),(cnt l 2:Nat),(cnt l 3:Nat),(cnt l 4:Nat),(cnt l 5:Nat))
def lst6 (t:I6):List Int:= [t.1,t.2.1,t.2.2.1,t.2.2.2.1,t.2.2.2.2.1,t.2.2.2.2.2]
def DepOK (d:Int):Prop:=0≤d∧d≤5
theorem dep_cases {d:Int} (h:DepOK d):d=0∨d=1∨d=2∨d=3∨d=4∨d=5:=by unfold DepOK at h;omega
theorem cnt_nil (d:Int):cnt [] d=0:=rfl
theorem cnt_snoc (l:List TRecord) (r:TRecord) (d:Int):cnt (l++ [r]) d=cnt l d+if r.At.Depot=d then 1 else 0:=by
 unfold cnt
 rw [List.countP_append]
 by_cases h:r.At.Depot=d<;>simp [h]
theorem cnt_le (l:List TRecord) (d:Int):cnt l d≤l.length:=List.countP_le_length
theorem idx_cnt (l:List TRecord) {d:Int} (h:DepOK d):idx (lst6 (cntT l)) d=some ((cnt l d:Nat):Int):=by
 rcases dep_cases h with rfl|rfl|rfl|rfl|rfl|rfl<;>rfl
theorem has_eq (l:List TRecord) (hl:l.length≤1000000) (hd:∀r∈l,DepOK r.At.Depot):m_depot_has l=some (cntT l):=by
 have key:=loop_list (body:=m_depot_has_L1 l) (R:=Unit) l (by omega) (fun k (s:I6)=>((k:Int),s.1,s.2.1,s.2.2.1,s.2.2.2.1,s.2.2.2.2.1,s.2.2.2.2.2)) (fun s x=> .inl ((if x.At.Depot=0 then s.1+1 else s.1),(if x.At.Depot=1 then s.2.1+1 else s.2.1),(if x.At.Depot=2 then s.2.2.1+1 else s.2.2.1),(if x.At.Depot=3 then s.2.2.2.1+1 else s.2.2.2.1),(if x.At.Depot=4 then s.2.2.2.2.1+1 else s.2.2.2.2.1),(if x.At.Depot=5 then s.2.2.2.2.2+1 else s.2.2.2.2.2))) (fun _=>((0:Int),(0:Int),(0:Int),(0:Int),(0:Int),(0:Int),(0:Int))) (fun s=>((l.length:Int),s.1,s.2.1,s.2.2.1,s.2.2.2.1,s.2.2.2.2.1,s.2.2.2.2.2)) (fun pre s=>s=cntT pre) (by
  rintro pre x post s hp rfl
  have hx:DepOK x.At.Depot:=hd x (by rw [hp];simp)
  have hpl:pre.length<l.length:=by rw [hp];simp
  have hb:∀d,cnt pre d≤pre.length:=cnt_le pre
  constructor
  · unfold m_depot_has_L1
    dsimp only
    rw [if_pos (by simp only [decide_eq_true_eq];omega)]
    have hi:idx l ((pre.length:Nat):Int)=some x:=by rw [hp];exact idx_pre
    rw [hi,Option.bind_some,gd_t (by unfold DepOK at hx;omega)]
    have e:=idx_cnt pre hx
    unfold lst6 at e
    rw [e,Option.bind_some,gd_t (by unfold DepOK at hx;omega),Option.bind_some]
    have hw:W ((cnt pre x.At.Depot:Nat)+1)=((cnt pre x.At.Depot:Nat):Int)+1:=W_id (by have:=hb x.At.Depot;omega)
    rw [hw,W_s (by omega)]
    simp only [Option.bind_some,cntT]
    rcases dep_cases hx with h|h|h|h|h|h<;>rw [h]<;>rfl
  · intro s' hs'
    simp only [Sum.inl.injEq]at hs'
    subst hs'
    unfold cntT
    simp only [cnt_snoc]
    refine Prod.ext ?_ (Prod.ext ?_ (Prod.ext ?_ (Prod.ext ?_ (Prod.ext ?_ ?_))))<;>(dsimp only;split<;>simp)) (by
  rintro s _
  unfold m_depot_has_L1
  dsimp only
  rw [if_neg (by simp)]) (0,0,0,0,0,0) (by simp [cntT,cnt])
 unfold m_depot_has
 have key2:loopF (m_depot_has_L1 l) (0,0,0,0,0,0,0)=_:=key
 rw [key2]
 have hrun:∀(post pre:List TRecord),runL (R:=Unit) (fun(s:I6) (x:TRecord)=> .inl ((if x.At.Depot=0 then s.1+1 else s.1),(if x.At.Depot=1 then s.2.1+1 else s.2.1),(if x.At.Depot=2 then s.2.2.1+1 else s.2.2.1),(if x.At.Depot=3 then s.2.2.2.1+1 else s.2.2.2.1),(if x.At.Depot=4 then s.2.2.2.2.1+1 else s.2.2.2.2.1),(if x.At.Depot=5 then s.2.2.2.2.2+1 else s.2.2.2.2.2))) post (cntT pre)= .inl (cntT (pre++post)):=by
  intro post
  induction post with
  |nil=>intro pre;simp [runL]
  |cons x post ih=>
   intro pre
   simp only [runL]
   rw [show pre++x::post=(pre++ [x])++post by simp,←ih (pre++ [x])]
   congr 1
   unfold cntT
   simp only [cnt_snoc]
   refine Prod.ext ?_ (Prod.ext ?_ (Prod.ext ?_ (Prod.ext ?_ (Prod.ext ?_ ?_))))<;>(dsimp only;split<;>simp)
 have h0:((0,0,0,0,0,0):I6)=cntT []:=by simp [cntT,cnt]
 have hr:=hrun l []
 rw [←h0]at hr
 rw [hr]
 rfl
theorem many_eq (l:List TRecord) (hl:l.length≤1000000) (hd:∀r∈l,DepOK r.At.Depot):m_R08_many l=some (cntT l):=has_eq l hl hd
theorem rec_dep {r:TRecord} (h:RecOK r):DepOK r.At.Depot:=h.1.1
def NextOK (l:List TRecord) (r:TRecord):Prop:=l.length<60∧((cnt l r.At.Depot:Nat):Int)=r.At.No
instance (l : List TRecord) (r : TRecord) : Decidable (NextOK l r) := by unfold NextOK; infer_instance
theorem next_eq (l:List TRecord) (r:TRecord) (hl:l.length≤1000000) (hd:∀r∈l,DepOK r.At.Depot) (hr:DepOK r.At.Depot):m_depot_next l r=some (decide (NextOK l r)):=by
 unfold m_depot_next NextOK
 by_cases h:l.length<60
 · rw [if_pos (by simp only [decide_eq_true_eq];omega),has_eq l hl hd,Option.bind_some]
   have e:=idx_cnt l hr
   unfold lst6 at e
   rw [e,Option.bind_some]
   simp only [h,true_and]
   congr 1
 · rw [if_neg (by simp only [decide_eq_true_eq];omega)]
   simp [h]
def Written (l:List TRecord):Prop:=∀(i:Nat) (r:TRecord),l[i]?=some r→RecOK r∧NextOK (l.take i) r
theorem Written.len {l:List TRecord} (h:Written l):l.length≤60:=by
 rcases Nat.lt_or_ge 60 l.length with hl|hl
 · have:=(h 60 l[60] (List.getElem?_eq_getElem hl)).2.1
   simp at this;omega
 · exact hl
theorem Written.rec {l:List TRecord} (h:Written l) {r:TRecord} (hr:r∈l):RecOK r:=by
 obtain⟨i,hi,rfl⟩:=List.getElem_of_mem hr
 exact(h i _ (List.getElem?_eq_getElem hi)).1
theorem Written.dep {l:List TRecord} (h:Written l) {r:TRecord} (hr:r∈l):DepOK r.At.Depot:=rec_dep (h.rec hr)
theorem Written.nil:Written []:=fun i r h=>by simp at h
theorem Written.snoc {l:List TRecord} (h:Written l) {r:TRecord} (hr:RecOK r) (hn:NextOK l r):Written (l++ [r]):=by
 intro i x hx
 rcases Nat.lt_trichotomy i l.length with h1|h1|h1
 · rw [List.getElem?_append_left h1]at hx
   have:=h i x hx
   rwa [List.take_append_of_le_length (Nat.le_of_lt h1)]
 · subst h1
   simp at hx
   subst hx
   simpa using ⟨hr,hn⟩
 · rw [List.getElem?_eq_none (by simp;omega)]at hx;cases hx
theorem written_loop {body:Int→Option (Sum Int (Sum Int Bool))} (l:List TRecord) (hl:l.length≤9223372036854775800) (ans:Bool) (ha:ans=true↔Written l)
 (h:∀(i:Nat) (hi:i<l.length),(∀r∈l.take i,RecOK r)→i≤60→body (i:Int)=some (if RecOK l[i]∧NextOK (l.take i) l[i]then .inl ((i+1:Nat):Int)else .inr (.inr false)))
 (he:body (l.length:Int)=some (.inr (.inl (l.length:Int)))):(loopF body 0).bind (fun e=>match e with| .inl _=>some true| .inr r=>some r)=some ans:=by
 obtain⟨e,h1,h2⟩:=loop_rule (body:=body) (fun st=>∃i:Nat,st=(i:Int)∧i≤l.length∧Written (l.take i)) (fun st=>l.length-st.toNat) (fun e=>match e with| .inl _=>Written l| .inr r=>r=false∧¬Written l) (by
  rintro _ ⟨i,rfl,hi,hw⟩
  rcases Nat.lt_or_ge i l.length with hlt|hge
  · have hlen:=hw.len
    have hb:=h i hlt (fun r hr=>hw.rec hr) (by simp at hlen;omega)
    by_cases hok:RecOK l[i]∧NextOK (l.take i) l[i]
    · right
      rw [if_pos hok]at hb
      refine⟨_,hb,⟨i+1,rfl,hlt, ?_⟩, ?_⟩
      · rw [List.take_succ_eq_append_getElem hlt];exact hw.snoc hok.1 hok.2
      · simp only [Int.toNat_natCast];omega
    · left
      rw [if_neg hok]at hb
      exact⟨_,hb,rfl,fun hw2=>hok (hw2 i _ (List.getElem?_eq_getElem hlt))⟩
  · left
    obtain rfl:i=l.length:=by omega
    refine⟨_,he, ?_⟩
    rw [List.take_length]at hw;exact hw) 0 ⟨0,rfl,Nat.zero_le _,by rw [List.take_zero];exact Written.nil⟩ (by unfold FUEL;simp only [Int.toNat_zero];omega)
 rw [h1]
 cases e with
 |inl _=>simp only [Option.bind_some];rw [ha.2 h2]
 |inr r=>
  obtain⟨rfl,h2⟩:=h2
  have:ans=false:=by cases ans with|false=>rfl|true=>exact absurd (ha.1 rfl) h2
  simp only [Option.bind_some];rw [this]
open Classical in theorem areWritten_eq (l : List TRecord) (hl : l.length ≤ 9223372036854775800) (hs : ∀ r ∈ l, r.Text.size ≤ 9223372036854775807) : m_depot_areWritten l = some (decide (Written l)) := by
  unfold m_depot_areWritten
  refine written_loop l hl _ (by simp) (fun i hi hpre h60 => ?_) ?_
  · unfold m_depot_areWritten_L1
    rw [if_pos (by simp only [decide_eq_true_eq]; omega), idx_n hi, Option.bind_some, isRecord_eq _ (hs _ (List.getElem_mem hi)), Option.bind_some]
    by_cases hok : RecOK l[i]
    · rw [if_neg (by simp [hok]), gd_t (by omega), Option.bind_some]
      have e : sub l 0 ((i : Int)).toNat = l.take i := by unfold sub; simp
      rw [e, next_eq _ _ (by simp; omega) (fun r hr => rec_dep (hpre r hr)) (rec_dep hok), Option.bind_some, W_s (by omega)]
      by_cases hn : NextOK (l.take i) l[i] <;> simp [hok, hn]
    · rw [if_pos (by simp [hok])]
      simp [hok]
  · unfold m_depot_areWritten_L1
    rw [if_neg (by simp)]
end Go.Proofs.YtggdlgclohnbaaaGreatDoor
namespace Go.Proofs.YtggdlgclohnbaaaGreatDoor
open Go Go.Sx
open Classical in noncomputable def decF (t : ByteArray) : Option TRecord := if h : ∃ r, RecOK r ∧ encB r = t then some (Classical.choose h) else none
theorem enc_inj {r q:TRecord} (hr:RecOK r) (hq:RecOK q) (h:encB r=encB q):r=q:=by
 have h1:=dec_yes hr
 rw [h,dec_yes hq]at h1
 simp only [Option.some.injEq,Prod.mk.injEq,and_true]at h1
 exact h1.symm
theorem decF_some {t:ByteArray} {r:TRecord} (h:decF t=some r):RecOK r∧encB r=t:=by
 unfold decF at h
 split at h
 · rename_i hx
   cases h
   exact Classical.choose_spec hx
 · cases h
theorem decF_enc {r:TRecord} (h:RecOK r):decF (encB r)=some r:=by
 have hx:∃q,RecOK q∧encB q=encB r:=⟨r,h,rfl⟩
 unfold decF
 rw [dif_pos hx]
 congr 1
 have:=Classical.choose_spec hx
 exact enc_inj this.1 h this.2
theorem decF_none {t:ByteArray} (h:decF t=none):∀r,RecOK r→encB r≠t:=fun r hr e=>by
 subst e
 rw [decF_enc hr]at h;cases h
theorem decode_eq (t:ByteArray) (ht:t.size≤281474976710656):m_depot_decode t=some (match decF t with|some r=>(r,true)|none=>(zR,false)):=by
 cases h:decF t with
 |none=>exact dec_no t ht (decF_none h)
 |some r=>obtain⟨h1,rfl⟩:=decF_some h;exact dec_yes h1
def pieceF (l:List TCard) (no p q:Int):Option TCard:=l.find? fun c=>decide (WholeP c∧c.No=no∧c.Part=p∧(q=0∨c.Parts=q))
theorem pieceF_some {l:List TCard} {no p q:Int} {c:TCard} (h:pieceF l no p q=some c):WholeP c∧c.No=no∧c.Part=p∧(q=0∨c.Parts=q):=by
 have:=List.find?_some h
 exact of_decide_eq_true this
def gatherF (l:List TCard) (no q:Int):Nat→Int→Option ByteArray
 |0,_=>some ⟨#[]⟩
 |n+1,i=>match pieceF l no i q with
  |none=>none
  |some c=>match gatherF l no q n (i+1)with
   |none=>none
   |some t=>some (c.Text++t)
def textF (l:List TCard) (no:Int):Option ByteArray:=match pieceF l no 0 0 with
 |none=>none
 |some c=>gatherF l no c.Parts c.Parts.toNat 0
noncomputable def openG (l:List TCard):Nat→List TRecord→List TRecord
 |0,out=>out
 |n+1,out=>match textF l (out.length:Int)with
  |none=>out
  |some t=>match decF t with
   |none=>out
   |some r=>if NextOK out r then openG l n (out++ [r])else out
noncomputable def openF (l:List TCard):List TRecord:=openG l 61 []
theorem openG_written (l:List TCard):∀(n:Nat) (out:List TRecord),Written out→Written (openG l n out)
 |0,out,h=>h
 |n+1,out,h=>by
  simp only [openG]
  split
  · exact h
  · split
    · exact h
    · rename_i r hr
      split
      · rename_i hn
        exact openG_written l n _ (h.snoc (decF_some hr).1 hn)
      · exact h
theorem openF_written (l:List TCard):Written (openF l):=openG_written l 61 [] Written.nil
def ofK:Int→List TRecord→List TCard
 |_, []=> []
 |k,r::l=>cardsF (encB r) k++ofK (k+1) l
def ofF (l:List TRecord):List TCard:=ofK 0 l
theorem ofK_append:∀(l m:List TRecord) (k:Int),ofK k (l++m)=ofK k l++ofK (k+l.length) m
 | [],m,k=>by simp [ofK]
 |r::l,m,k=>by
  simp only [List.cons_append,ofK,ofK_append l m (k+1),List.append_assoc,List.length_cons]
  rw [show k+1+(l.length:Int)=k+((l.length+1:Nat):Int) by omega]
theorem ofF_snoc (l:List TRecord) (r:TRecord):ofF (l++ [r])=ofF l++cardsF (encB r) (l.length:Int):=by
 unfold ofF
 rw [ofK_append]
 simp [ofK]
theorem ofK_len:∀(l:List TRecord) (k:Int),(∀r∈l,RecOK r)→(ofK k l).length≤17*l.length
 | [],_,_=>by simp [ofK]
 |r::l,k,h=>by
  have h1:=ofK_len l (k+1) fun x hx=>h x (List.mem_cons_of_mem _ hx)
  have h2:=parts_le (enc_size (h r List.mem_cons_self))
  simp only [ofK,List.length_append,List.length_cons,cardsF_len];omega
theorem of_eq (l:List TRecord) (h:∀r∈l,RecOK r) (hl:l.length≤1000):m_depot_of l=some (ofF l):=by
 have key:=loop_fn (body:=m_depot_of_L1 l) (fun k=>(ofF (l.take k),(k:Int))) l.length (by omega) (ofF l,(l.length:Int)) (fun k hk=>by
  unfold m_depot_of_L1
  dsimp only
  have hlen:=ofK_len (l.take k) 0 fun r hr=>h r (List.mem_of_mem_take hr)
  have hp:=parts_le (enc_size (h l[k] (List.getElem_mem hk)))
  rw [if_pos (by simp only [decide_eq_true_eq];omega),idx_n hk,Option.bind_some,dcards_eq (h _ (List.getElem_mem hk)),Option.bind_some,gd_t (by unfold ofF;rw [cardsF_len];simp at hlen;omega),W_s (by omega)]
  congr 3
  rw [List.take_succ_eq_append_getElem hk,ofF_snoc]
  simp [Nat.min_eq_left (Nat.le_of_lt hk)]) (by
  unfold m_depot_of_L1
  dsimp only
  rw [if_neg (by simp),List.take_length])
 unfold m_depot_of
 rw [List.take_zero]at key
 have key2:loopF (m_depot_of_L1 l) ([],0)=_:=key
 rw [key2];rfl
end Go.Proofs.YtggdlgclohnbaaaGreatDoor
namespace Go.Proofs.YtggdlgclohnbaaaGreatDoor
open Go Go.Sx
theorem emp_app (t:ByteArray):(⟨#[]⟩:ByteArray)++t=t:=by
 apply ByteArray.ext
 apply Array.ext'
 rw [ByteArray.data_append];simp
theorem app_emp (t:ByteArray):t++(⟨#[]⟩:ByteArray)=t:=by
 apply ByteArray.ext
 apply Array.ext'
 rw [ByteArray.data_append];simp
end Go.Proofs.YtggdlgclohnbaaaGreatDoor
namespace Go.Proofs.YtggdlgclohnbaaaGreatDoor
open Go Go.Sx
theorem dall_eq (b:TBox) (h:(b.Thread.length+b.Loose.length)*48≤140737488355328):m_depot_all b=some (b.Thread++b.Loose):=by
 unfold m_depot_all m_slices_Concat_api_Card_api_Card
 have k1:loopF (m_slices_Concat_api_Card_api_Card_L1 [b.Thread,b.Loose]) (0,0)=some (((b.Thread.length+b.Loose.length:Nat):Int),2):=
  loop_fn (body:=m_slices_Concat_api_Card_api_Card_L1 [b.Thread,b.Loose]) (fun k=>match k with|0=>(0,0)|1=>((b.Thread.length:Int),1)|_=>(((b.Thread.length+b.Loose.length:Nat):Int),2)) 2 (by omega) _ (fun k hk=>by
   match k,hk with
   |0,_=>
    show m_slices_Concat_api_Card_api_Card_L1 [b.Thread,b.Loose] (0,0)=some (.inl ((b.Thread.length:Int),1))
    unfold m_slices_Concat_api_Card_api_Card_L1
    dsimp only
    rw [if_pos (by simp),show idx [b.Thread,b.Loose] 0=some b.Thread from rfl,Option.bind_some,W_id (z:=(0:Int)+(b.Thread.length:Int)) (by omega),if_neg (by simp only [decide_eq_true_eq];omega),show W ((0:Int)+1)=1 from rfl,Int.zero_add]
   |1,_=>
    show m_slices_Concat_api_Card_api_Card_L1 [b.Thread,b.Loose] ((b.Thread.length:Int),1)=some (.inl (((b.Thread.length+b.Loose.length:Nat):Int),2))
    unfold m_slices_Concat_api_Card_api_Card_L1
    dsimp only
    rw [if_pos (by simp),show idx [b.Thread,b.Loose] 1=some b.Loose from rfl,Option.bind_some,W_id (z:=(b.Thread.length:Int)+(b.Loose.length:Int)) (by omega),if_neg (by simp only [decide_eq_true_eq];omega),show W ((1:Int)+1)=2 from rfl]
    rfl) (by
   show m_slices_Concat_api_Card_api_Card_L1 [b.Thread,b.Loose] (((b.Thread.length+b.Loose.length:Nat):Int),2)=some (.inr (((b.Thread.length+b.Loose.length:Nat):Int),2))
   unfold m_slices_Concat_api_Card_api_Card_L1
   dsimp only
   rw [if_neg (by simp)])
 have k2:loopF (m_slices_Concat_api_Card_api_Card_L2 [b.Thread,b.Loose]) (0,([]:List TCard))=some (2,b.Thread++b.Loose):=
  loop_fn (body:=m_slices_Concat_api_Card_api_Card_L2 [b.Thread,b.Loose]) (fun k=>match k with|0=>(0, [])|1=>(1,b.Thread)|_=>(2,b.Thread++b.Loose)) 2 (by omega) _ (fun k hk=>by
   match k,hk with
   |0,_=>
    show m_slices_Concat_api_Card_api_Card_L2 [b.Thread,b.Loose] (0, [])=some (.inl (1,b.Thread))
    unfold m_slices_Concat_api_Card_api_Card_L2
    dsimp only
    rw [if_pos (by simp),show idx [b.Thread,b.Loose] 0=some b.Thread from rfl,Option.bind_some,gd_t (by simp;omega),show W ((0:Int)+1)=1 from rfl,List.nil_append]
   |1,_=>
    show m_slices_Concat_api_Card_api_Card_L2 [b.Thread,b.Loose] (1,b.Thread)=some (.inl (2,b.Thread++b.Loose))
    unfold m_slices_Concat_api_Card_api_Card_L2
    dsimp only
    rw [if_pos (by simp),show idx [b.Thread,b.Loose] 1=some b.Loose from rfl,Option.bind_some,gd_t (by omega),show W ((1:Int)+1)=2 from rfl]) (by
   show m_slices_Concat_api_Card_api_Card_L2 [b.Thread,b.Loose] (2,b.Thread++b.Loose)=some (.inr (2,b.Thread++b.Loose))
   unfold m_slices_Concat_api_Card_api_Card_L2
   dsimp only
   rw [if_neg (by simp)])
 rw [k1,Option.bind_some]
 dsimp only
 rw [gd_t (by omega),k2];rfl
theorem whole_eq (b:TBox) (h:(b.Thread.length+b.Loose.length)*48≤140737488355328):it_depot_whole_1 b=some ((b.Thread++b.Loose).filter (fun c=>decide (WholeP c)),()):=by
 unfold it_depot_whole_1
 rw [dall_eq b h,Option.bind_some]
 have hl:(b.Thread++b.Loose).length≤9223372036854775800:=by rw [List.length_append];omega
 generalize b.Thread++b.Loose=l at hl
 have key:=loopI_list (body:=it_depot_whole_1_L1 l) l (by omega) (fun k=>(k:Int)) (fun c=>if WholeP c then [c]else []) (l.length:Int) (fun pre x post hx=>by
  unfold it_depot_whole_1_L1
  rw [if_pos (by rw [hx];simp only [decide_eq_true_eq];exact lt_pre),show idx l ((pre.length:Nat):Int)=some x from by rw [hx];exact idx_pre,Option.bind_some,isWhole_eq,Option.bind_some]
  have hlt:pre.length<l.length:=by rw [hx];simp
  rw [W_s (by omega)]
  by_cases hw:WholeP x
  · simp [hw,emit]
  · simp [hw]) (by
  unfold it_depot_whole_1_L1
  rw [if_neg (by simp)])
 have key2:loopIF (it_depot_whole_1_L1 l) 0=_:=key
 rw [key2]
 simp only [bindI,List.append_nil]
 congr 2
 induction l with
 |nil=>rfl
 |cons x l ih=>
  simp only [List.flatMap_cons,List.filter_cons]
  clear key key2
  have ih':List.flatMap (fun c=>if WholeP c then [c]else []) l=List.filter (fun c=>decide (WholeP c)) l:=by
   clear ih hl
   induction l with
   |nil=>rfl
   |cons y l ih=>simp only [List.flatMap_cons,List.filter_cons,ih];by_cases hy:WholeP y<;>simp [hy]
  rw [ih']
  by_cases hx:WholeP x<;>simp [hx]
section
variable {K V : Type} [DecidableEq K]
theorem mget_mput (l:List (K×V)) (k:K) (v:V) (j:K):mget (mput l k v) j=if j=k then some v else mget l j:=by
 induction l with
 |nil=>simp [mput,mget]
 |cons p l ih=>
  obtain⟨a,x⟩:=p
  simp only [mput]
  by_cases h:k=a
  · subst h
    simp only [if_true,mget]
    by_cases hj:j=k<;>simp [hj]
  · rw [if_neg h]
    simp only [mget]
    by_cases hj:j=a
    · subst hj
      rw [if_pos rfl,if_pos rfl,if_neg (fun e=>h e.symm)]
    · rw [if_neg hj,if_neg hj,ih]
end
def plc (c:TCard):Tplace:=⟨c.No,c.Part,c.Parts⟩
theorem maps_eq:∀(ws:List TCard) (a:List (Tplace×ByteArray)) (b:List (Int×Int)),∃a' b',rangeF m_depot_Open_L1 ws (a,b)=some (.inl (a',b'))∧
 (∀p,mget a' p=(mget a p).or ((ws.find? fun c=>decide (plc c=p)).map (·.Text)))∧(∀k,mget b' k=(mget b k).or ((ws.find? fun c=>decide (c.No=k∧c.Part=0)).map (·.Parts)))
 | [],a,b=>⟨a,b,rfl,fun p=>by simp,fun k=>by simp⟩
 |c::ws,a,b=>by
  have hstep:∃a1 b1,m_depot_Open_L1 (a,b) c=some (.inl (a1,b1))∧(∀p,mget a1 p=(mget a p).or (if plc c=p then some c.Text else none))∧(∀k,mget b1 k=(mget b k).or (if c.No=k∧c.Part=0 then some c.Parts else none)):=by
   unfold m_depot_Open_L1
   dsimp only
   have ha:∀p,(mget a (plc c)).isSome=false→mget (mput a (plc c) c.Text) p=(mget a p).or (if plc c=p then some c.Text else none):=fun p h=>by
    rw [mget_mput]
    by_cases hp:p=plc c
    · subst hp
      rw [if_pos rfl,if_pos rfl]
      cases hm:mget a (plc c)with
      |none=>rfl
      |some v=>rw [hm]at h;cases h
    · rw [if_neg hp,if_neg (fun e=>hp e.symm)];simp
   have ha2:∀p,(mget a (plc c)).isSome=true→mget a p=(mget a p).or (if plc c=p then some c.Text else none):=fun p h=>by
    by_cases hp:plc c=p
    · subst hp
      cases hm:mget a (plc c)with
      |none=>rw [hm]at h;cases h
      |some v=>rfl
    · rw [if_neg hp];simp
   have hb:∀k,(mget b c.No).isSome=false→c.Part=0→mget (mput b c.No c.Parts) k=(mget b k).or (if c.No=k∧c.Part=0 then some c.Parts else none):=fun k h h0=>by
    rw [mget_mput]
    by_cases hp:k=c.No
    · subst hp
      rw [if_pos rfl,if_pos ⟨rfl,h0⟩]
      cases hm:mget b c.No with
      |none=>rfl
      |some v=>rw [hm]at h;cases h
    · rw [if_neg hp,if_neg (fun e=>hp e.1.symm)];simp
   have hb2:∀k,((mget b c.No).isSome=true∨c.Part≠0)→mget b k=(mget b k).or (if c.No=k∧c.Part=0 then some c.Parts else none):=fun k h=>by
    by_cases hp:c.No=k∧c.Part=0
    · rcases h with h|h
      · rw [hp.1]at h
        cases hm:mget b k with
        |none=>rw [hm]at h;cases h
        |some v=>rfl
      · exact absurd hp.2 h
    · rw [if_neg hp];simp
   have e:(⟨c.No,c.Part,c.Parts⟩:Tplace)=plc c:=rfl
   rw [e]
   cases h1:(mget a (plc c)).isSome with
   |false=>
    rw [if_pos (by decide)]
    cases h2:(mget b c.No).isSome with
    |false=>
     rw [if_pos (by decide)]
     by_cases h0:c.Part=0
     · rw [if_pos (by simpa using h0)]
       exact⟨_,_,rfl,fun p=>ha p h1,fun k=>hb k h2 h0⟩
     · rw [if_neg (by simpa using h0)]
       exact⟨_,_,rfl,fun p=>ha p h1,fun k=>hb2 k (.inr h0)⟩
    |true=>
     rw [if_neg (by decide)]
     exact⟨_,_,rfl,fun p=>ha p h1,fun k=>hb2 k (.inl h2)⟩
   |true=>
    rw [if_neg (by decide)]
    cases h2:(mget b c.No).isSome with
    |false=>
     rw [if_pos (by decide)]
     by_cases h0:c.Part=0
     · rw [if_pos (by simpa using h0)]
       exact⟨_,_,rfl,fun p=>ha2 p h1,fun k=>hb k h2 h0⟩
     · rw [if_neg (by simpa using h0)]
       exact⟨_,_,rfl,fun p=>ha2 p h1,fun k=>hb2 k (.inr h0)⟩
    |true=>
     rw [if_neg (by decide)]
     exact⟨_,_,rfl,fun p=>ha2 p h1,fun k=>hb2 k (.inl h2)⟩
  obtain⟨a1,b1,h1,h2,h3⟩:=hstep
  obtain⟨a2,b2,h4,h5,h6⟩:=maps_eq ws a1 b1
  refine⟨a2,b2,by simp only [rangeF,h1];exact h4,fun p=> ?_,fun k=> ?_⟩
  · rw [h5,h2,Option.or_assoc]
    congr 1
    simp only [List.find?_cons]
    by_cases hp:plc c=p<;>simp [hp]
  · rw [h6,h3,Option.or_assoc]
    congr 1
    simp only [List.find?_cons]
    by_cases hp:c.No=k∧c.Part=0<;>simp [hp]
theorem find_filter {α:Type} (p q:α→Bool) (l:List α):(l.filter p).find? q=l.find? fun x=>p x&&q x:=by
 induction l with
 |nil=>rfl
 |cons x l ih=>
  simp only [List.filter_cons,List.find?_cons]
  by_cases hp:p x=true
  · simp [hp,List.find?_cons,ih]
  · simp [hp,ih]
structure Maps (l:List TCard) (A:List (Tplace×ByteArray)) (B:List (Int×Int)):Prop where
 a:∀k i q:Int,q≠0→mget A ⟨k,i,q⟩=(pieceF l k i q).map (·.Text)
 b:∀k:Int,mget B k=(pieceF l k 0 0).map (·.Parts)
theorem maps_of (l:List TCard):∃A B,rangeF m_depot_Open_L1 (l.filter fun c=>decide (WholeP c)) (([]:List (Tplace×ByteArray)),([]:List (Int×Int)))=some (.inl (A,B))∧Maps l A B:=by
 obtain⟨A,B,h1,h2,h3⟩:=maps_eq (l.filter fun c=>decide (WholeP c)) [] []
 refine⟨A,B,h1,⟨fun k i q hq=> ?_,fun k=> ?_⟩⟩
 · rw [h2]
   simp only [mget,Option.none_or,find_filter]
   unfold pieceF
   congr 2
   funext c
   rw [Bool.eq_iff_iff]
   simp only [Bool.and_eq_true,decide_eq_true_eq,plc,Tplace.mk.injEq,hq,false_or]
 · rw [h3]
   simp only [mget,Option.none_or,find_filter]
   unfold pieceF
   congr 2
   funext c
   rw [Bool.eq_iff_iff]
   simp
theorem dparts {l:List TCard} {A:List (Tplace×ByteArray)} {B:List (Int×Int)} (hM:Maps l A B) (k P:Int) (hP:(mget B k).getD 0=P) (hP0:P≠0) (hP10:P≤10):
 ∀(n:Nat) (i:Int) (s:ByteArray) (fine:Bool) (N:Nat),0≤i→i+n=P→s.size+24*n≤24*20→n<N→
  ∃s' fine' i',loopO (m_depot_Open_L5 A B k) N (s,fine,i)=some (s',fine',i')∧s'.size≤24*20∧(fine=false→fine'=false)∧(fine=true→match gatherF l k P n i with|some t=>fine'=true∧s'=s++t|none=>fine'=false)
 |0,i,s,fine,N,h0,hi,hs,hN=>by
  cases N with
  |zero=>omega
  |succ N=>
   refine⟨s,fine,i, ?_,by omega,fun h=>h,fun h=>⟨h,(app_emp s).symm⟩⟩
   simp only [loopO]
   unfold m_depot_Open_L5
   dsimp only
   rw [hP,if_neg (by simp only [decide_eq_true_eq];omega)]
 |n+1,i,s,fine,N,h0,hi,hs,hN=>by
  cases N with
  |zero=>omega
  |succ N=>
   have ha:=hM.a k i P hP0
   have hsz:((mget A ⟨k,i,P⟩).getD ⟨#[]⟩).size≤24:=by
    rw [ha]
    cases hp:pieceF l k i P with
    |none=>exact Nat.zero_le _
    |some c=>
     have hw:=(pieceF_some hp).1
     unfold WholeP at hw
     simp only [Option.map_some,Option.getD_some];omega
   have hb:m_depot_Open_L5 A B k (s,fine,i)=some (.inl (s++(mget A ⟨k,i,P⟩).getD ⟨#[]⟩,fine&&(mget A ⟨k,i,P⟩).isSome,i+1)):=by
    unfold m_depot_Open_L5
    dsimp only
    rw [hP,if_pos (by simp only [decide_eq_true_eq];omega),gd_t (by omega),W_id (z:=i+1) (by omega)]
    cases fine<;>rfl
   simp only [loopO,hb]
   obtain⟨s',fine',i',h1,h2,h3,h4⟩:=dparts hM k P hP hP0 hP10 n (i+1) (s++(mget A ⟨k,i,P⟩).getD ⟨#[]⟩) (fine&&(mget A ⟨k,i,P⟩).isSome) N (by omega) (by omega) (by rw [ByteArray.size_append];omega) (by omega)
   refine⟨s',fine',i',h1,h2,fun hf=>h3 (by rw [hf];rfl),fun hf=> ?_⟩
   simp only [gatherF]
   cases hp:pieceF l k i P with
   |none=>
    dsimp only
    exact h3 (by rw [ha,hp];simp)
   |some c=>
    have h5:=h4 (by rw [hf,ha,hp];rfl)
    dsimp only
    cases hg:gatherF l k P n (i+1)with
    |none=>rw [hg]at h5;exact h5
    |some t=>
     rw [hg]at h5
     refine⟨h5.1, ?_⟩
     rw [h5.2,ha,hp]
     simp only [Option.map_some,Option.getD_some]
     rw [ByteArray.append_assoc]
theorem dopen_step {l:List TCard} {A:List (Tplace×ByteArray)} {B:List (Int×Int)} (hM:Maps l A B) (out:List TRecord) (hw:Written out):
 m_depot_Open_L4 A B (out,(out.length:Int))=some (match textF l (out.length:Int)with
  |none=> .inr (out,(out.length:Int))
  |some t=>match decF t with
   |none=> .inr (out,(out.length:Int))
   |some r=>if NextOK out r then .inl (out++ [r],((out.length+1:Nat):Int))else .inr (out,(out.length:Int))):=by
 have hlen:=hw.len
 have hdep:∀r∈out,DepOK r.At.Depot:=fun r hr=>hw.dep hr
 have hb:=hM.b (out.length:Int)
 unfold m_depot_Open_L4
 dsimp only
 unfold textF
 cases hp:pieceF l (out.length:Int) 0 0 with
 |none=>
  rw [hp]at hb
  have hP:(mget B (out.length:Int)).getD 0=0:=by rw [hb];rfl
  have hloop:loopF (m_depot_Open_L5 A B (out.length:Int)) (⟨#[]⟩,decide ((mget B (out.length:Int)).getD 0>0),0)=some (⟨#[]⟩,false,0):=by
   rw [hP]
   exact loop_fn (body:=m_depot_Open_L5 A B (out.length:Int)) (fun _=>((⟨#[]⟩:ByteArray),false,(0:Int))) 0 (by omega) _ (fun k hk=>by omega) (by
    unfold m_depot_Open_L5
    dsimp only
    rw [hP,if_neg (by decide)])
  rw [hloop,Option.bind_some]
  dsimp only
  rw [if_pos (by decide)]
 |some c0=>
  obtain⟨hw0,g1,g2,_⟩:=pieceF_some hp
  have hw1:=hw0
  unfold WholeP at hw1
  rw [hp]at hb
  have hP:(mget B (out.length:Int)).getD 0=c0.Parts:=by rw [hb];rfl
  obtain⟨P,hPn⟩:∃P:Nat,c0.Parts=P:=⟨c0.Parts.toNat,by omega⟩
  obtain⟨s',fine',i',h1,h2,_,h4⟩:=dparts hM (out.length:Int) c0.Parts hP (by omega) (by omega) P 0 ⟨#[]⟩ true FUEL (by omega) (by omega) (by show 0+24*P≤_;omega) (by unfold FUEL;omega)
  have h4:=h4 rfl
  have hfine:decide ((mget B (out.length:Int)).getD 0>0)=true:=by rw [hP];simp only [decide_eq_true_eq];omega
  have hloop:loopF (m_depot_Open_L5 A B (out.length:Int)) (⟨#[]⟩,decide ((mget B (out.length:Int)).getD 0>0),0)=some (s',fine',i'):=by rw [hfine];exact h1
  rw [hloop,Option.bind_some]
  dsimp only
  rw [show c0.Parts.toNat=P by omega]
  cases hg:gatherF l (out.length:Int) c0.Parts P 0 with
  |none=>
   rw [hg]at h4
   subst h4
   dsimp only
   rw [if_pos (by decide)]
  |some t=>
   rw [hg]at h4
   obtain⟨rfl,rfl⟩:=h4
   rw [emp_app]at h2⊢
   dsimp only
   rw [if_neg (by decide),decode_eq t (by omega),Option.bind_some]
   cases hd:decF t with
   |none=>
    dsimp only
    rw [if_pos (by decide)]
   |some r=>
    obtain⟨hr,he⟩:=decF_some hd
    dsimp only
    rw [if_neg (by decide),next_eq out r (by omega) hdep (rec_dep hr),Option.bind_some]
    by_cases hn:NextOK out r
    · rw [if_neg (by simp [hn]),gd_t (by simp;omega),if_pos hn,W_s (by omega)]
    · rw [if_pos (by simp [hn]),if_neg hn]
theorem dOpen_eq (b:TBox) (h:(b.Thread.length+b.Loose.length)*48≤140737488355328):m_depot_Open b=some (⟨ofF (openF (b.Thread++b.Loose)), []⟩,openF (b.Thread++b.Loose)):=by
 unfold m_depot_Open m_depot_whole
 rw [Option.bind_some,whole_eq b h,Option.bind_some]
 generalize b.Thread++b.Loose=l
 obtain⟨A,B,h1,hM⟩:=maps_of l
 dsimp only
 rw [h1,Option.bind_some]
 dsimp only
 have key:∀(n:Nat) (out:List TRecord) (N:Nat),Written out→61-out.length≤n→n<N→loopO (m_depot_Open_L4 A B) N (out,(out.length:Int))=some (openG l n out,((openG l n out).length:Int)):=by
  intro n
  induction n with
  |zero=>
   intro out N hw hn hN
   have:=hw.len
   omega
  |succ n ih=>
   intro out N hw hn hN
   cases N with
   |zero=>omega
   |succ N=>
    simp only [loopO,dopen_step hM out hw,openG]
    cases ht:textF l (out.length:Int)with
    |none=>rfl
    |some t=>
     dsimp only
     cases hd:decF t with
     |none=>rfl
     |some r=>
      dsimp only
      by_cases hnx:NextOK out r
      · rw [if_pos hnx,if_pos hnx]
        have:=ih (out++ [r]) N (hw.snoc (decF_some hd).1 hnx) (by simp;omega) (by omega)
        simp only [List.length_append,List.length_singleton]at this
        exact this
      · rw [if_neg hnx,if_neg hnx]
 have hk:loopF (m_depot_Open_L4 A B) ([],0)=_:=key 61 [] FUEL Written.nil (by simp) (by unfold FUEL;omega)
 rw [hk,Option.bind_some]
 dsimp only
 have hw:=openF_written l
 rw [show openG l 61 []=openF l from rfl,of_eq _ (fun r hr=>hw.rec hr) (by have:=hw.len;omega)]
 rfl
end Go.Proofs.YtggdlgclohnbaaaGreatDoor
namespace Go.Proofs.YtggdlgclohnbaaaGreatDoor
open Go Go.Sx
def pickF (picks:List Int) (i:Nat):Int:=if picks.length=0 then 0 else picks.getD (i % picks.length) 0
def InR64 (l:List Int):Prop:=∀x∈l,-9223372036854775808≤x∧x≤9223372036854775807
theorem pickF_in {picks:List Int} (h:InR64 picks) (i:Nat): -9223372036854775808≤pickF picks i∧pickF picks i≤9223372036854775807:=by
 unfold pickF
 by_cases h0:picks.length=0
 · rw [if_pos h0];omega
 · rw [if_neg h0]
   have:i % picks.length<picks.length:=Nat.mod_lt _ (by omega)
   have:=h picks[i % picks.length] (List.getElem_mem this)
   simpa [List.getD,List.getElem?_eq_getElem ‹_›]using this
theorem idx_mod {picks:List Int} (h0:picks.length≠0) (i:Nat):idx picks ((i:Int).tmod (picks.length:Int))=some (pickF picks i):=by
 have hlt:i % picks.length<picks.length:=Nat.mod_lt _ (by omega)
 have e:(i:Int).tmod (picks.length:Int)=((i % picks.length:Nat):Int):=by rw [Int.tmod_eq_emod_of_nonneg (by omega)];rfl
 rw [e,idx_n hlt]
 unfold pickF
 rw [if_neg h0]
 simp [List.getD,List.getElem?_eq_getElem hlt]
theorem modF {x n:Int} (hx: -9223372036854775808≤x∧x≤9223372036854775807) (hn:1≤n∧n≤4611686018427387904):(W (x.tmod n+n)).tmod n=x % n:=by
 have h1:=Int.tmod_lt_of_pos x (show 0<n by omega)
 have h2: -n<x.tmod n:=by
  have:=Int.neg_lt_of_neg_lt (show-(x.tmod n)<n from by rw [←Int.neg_tmod];exact Int.tmod_lt_of_pos _ (by omega))
  exact this
 rw [W_id (by omega),Int.tmod_eq_emod_of_nonneg (by omega),Int.add_emod_right]
 have h3:x=n*x.tdiv n+x.tmod n:=(Int.mul_tdiv_add_tmod x n).symm
 conv=>rhs;rw [h3]
 rw [Int.mul_add_emod_self_left]
theorem dpick_eq (picks:List Int) (hp:InR64 picks) (i:Nat) (n:Int) (hn:1≤n∧n≤4611686018427387904):m_depot_pick picks (i:Int) n=some (pickF picks i % n):=by
 unfold m_depot_pick
 by_cases h0:picks.length=0
 · rw [if_pos (by simp [h0])]
   unfold pickF
   rw [if_pos h0];simp
 · rw [if_neg (by simpa using h0),gd_t (by omega),idx_mod h0,Option.bind_some,gd_t (by omega),gd_t (by omega),modF (pickF_in hp i) hn]
theorem Mod_eq (x m:Int) (hx: -9223372036854775808≤x∧x≤9223372036854775807) (hm:1≤m∧m≤4611686018427387904):m_R08_Mod x m=some (x % m):=by
 unfold m_R08_Mod
 rw [gd_t (by omega),gd_t (by omega),modF hx hm]
def fallS (picks:List Int) (i:Nat) (out:List TCard) (c:TCard):List TCard:=
 if pickF picks (2*i) % 4=0 then out
 else if pickF picks (2*i) % 4=3 then c::out
 else if pickF picks (2*i) % 4=1∧0<c.Text.size then out++ [⟨c.No,c.Part,c.Parts,c.Size,c.Text.extract 0 (pickF picks (2*i+1) % c.Text.size).toNat⟩]
 else out++ [c]
def fallF (picks:List Int):Nat→List TCard→List TCard→List TCard
 |_,out, []=>out
 |i,out,c::l=>fallF picks (i+1) (fallS picks i out c) l
theorem fallS_len (picks:List Int) (i:Nat) (out:List TCard) (c:TCard):(fallS picks i out c).length≤out.length+1:=by
 unfold fallS
 split
 · omega
 · split
   · simp
   · split<;>simp
theorem fallF_len (picks:List Int):∀(l:List TCard) (i:Nat) (out:List TCard),(fallF picks i out l).length≤out.length+l.length
 | [],_,_=>by simp [fallF]
 |c::l,i,out=>by
  have h1:=fallF_len picks l (i+1) (fallS picks i out c)
  have h2:=fallS_len picks i out c
  simp only [fallF,List.length_cons];omega
theorem fallF_snoc (picks:List Int):∀(l:List TCard) (i:Nat) (out:List TCard) (c:TCard),fallF picks i out (l++ [c])=fallS picks (i+l.length) (fallF picks i out l) c
 | [],i,out,c=>by simp [fallF]
 |x::l,i,out,c=>by
  simp only [List.cons_append,fallF,fallF_snoc picks l (i+1),List.length_cons]
  rw [show i+1+l.length=i+(l.length+1) by omega]
def FallB (b:TBox) (picks:List Int):TBox:=⟨b.Thread,fallF picks 0 [] b.Loose⟩
structure BoxSz (b:TBox):Prop where
 t:b.Thread.length*48≤140737488355328
 l:(b.Loose.length+1)*48≤140737488355328
 s:∀c∈b.Loose,c.Text.size≤281474976710656
theorem mod4 (x:Int):0≤x % 4∧x % 4<4:=by omega
theorem dFall_eq (b:TBox) (picks:List Int) (h:BoxSz b) (hp:InR64 picks) (hpl:picks.length≤9223372036854775800):m_depot_Fall b picks=some (FallB b picks):=by
 unfold m_depot_Fall m_slices_Clone_api_Card_api_Card
 have ht:=h.t
 have hl:=h.l
 rw [gd_t (by omega),Option.bind_some]
 have key:=loop_fn (body:=m_depot_Fall_L1 b picks) (fun k=>((k:Int),([]:List TCard),([]:List TCard),([]:List TCard),fallF picks 0 [] (b.Loose.take k))) b.Loose.length (by omega) ((b.Loose.length:Int), [], [], [],fallF picks 0 [] b.Loose) (fun k hk=>by
  have hlen:=fallF_len picks (b.Loose.take k) 0 []
  simp only [List.length_nil,List.length_take,Nat.zero_add]at hlen
  have hsn:=fallF_snoc picks (b.Loose.take k) 0 [] b.Loose[k]
  rw [←List.take_succ_eq_append_getElem hk]at hsn
  simp only [List.length_take,Nat.min_eq_left (Nat.le_of_lt hk),Nat.zero_add]at hsn
  have htx:=h.s b.Loose[k] (List.getElem_mem hk)
  unfold m_depot_Fall_L1
  dsimp only
  rw [hsn]
  generalize hO:fallF picks 0 [] (b.Loose.take k)=out at hlen⊢
  have e2:W (2*(k:Int))=((2*k:Nat):Int):=by rw [W_id (by omega)];omega
  rw [if_pos (by simp only [decide_eq_true_eq];omega),idx_n hk,Option.bind_some,e2,dpick_eq picks hp _ 4 (by omega),Option.bind_some,W_s (by omega)]
  have hm:=mod4 (pickF picks (2*k))
  unfold fallS
  by_cases h0:pickF picks (2*k) % 4=0
  · rw [if_pos (by simp [h0]),if_pos h0]
  · rw [if_neg (by simpa using h0),if_neg h0]
    by_cases h3:pickF picks (2*k) % 4=3
    · rw [if_pos (by simp [h3]),if_pos h3]
      unfold m_slices_Insert_api_Card_api_Card
      rw [gd_t (by simp),if_neg (by simp)]
      by_cases hz:out.length=0
      · have:out= []:=List.eq_nil_of_length_eq_zero hz
        subst this
        rw [if_pos (by simp),gd_t (by simp)];rfl
      · rw [if_neg (by simp only [beq_iff_eq];omega),gd_t (by simp;omega)];rfl
    · rw [if_neg (by simpa using h3),if_neg h3]
      by_cases h1:pickF picks (2*k) % 4=1
      · rw [if_pos (by simp [h1])]
        by_cases hs:0<b.Loose[k].Text.size
        · rw [if_pos (by simp only [decide_eq_true_eq];omega),if_pos ⟨h1,hs⟩]
          have e3:W (((2*k:Nat):Int)+1)=((2*k+1:Nat):Int):=W_s (by omega)
          have hpos:0≤pickF picks (2*k+1) % (b.Loose[k].Text.size:Int):=Int.emod_nonneg _ (by omega)
          have hlt:pickF picks (2*k+1) % (b.Loose[k].Text.size:Int)<(b.Loose[k].Text.size:Int):=Int.emod_lt_of_pos _ (by omega)
          rw [e3,dpick_eq picks hp _ _ (by omega),Option.bind_some,gd_t (by omega)]
          unfold m_strings_Clone m_internal_stringslite_Clone
          rw [gd_t (by rw [ByteArray.size_extract];omega),Option.bind_some,Option.bind_some,gd_t (by simp;omega)]
        · rw [if_neg (by simp only [decide_eq_true_eq];omega),if_neg (by rintro⟨_,h⟩;exact hs h),gd_t (by simp;omega)]
      · rw [if_neg (by simpa using h1),if_neg (by rintro⟨h,_⟩;exact h1 h),gd_t (by simp;omega)]) (by
  unfold m_depot_Fall_L1
  dsimp only
  rw [if_neg (by simp),List.take_length])
 rw [List.take_zero]at key
 have key2:loopF (m_depot_Fall_L1 b picks) (0, [], [], [], [])=_:=key
 rw [key2];rfl
end Go.Proofs.YtggdlgclohnbaaaGreatDoor
namespace Go.Proofs.YtggdlgclohnbaaaGreatDoor
open Go Go.Sx
def Bef (a b:TItem):Prop:=a.Depot<b.Depot∨(a.Depot=b.Depot∧a.No<b.No)
instance (a b : TItem) : Decidable (Bef a b) := by unfold Bef; infer_instance
theorem Bef.trans {a b c:TItem} (h:Bef a b) (k:Bef b c):Bef a c:=by unfold Bef at*;omega
theorem Bef.irr (a:TItem):¬Bef a a:=by unfold Bef;omega
theorem Bef.tri (a b:TItem):Bef a b∨a=b∨Bef b a:=by
 obtain⟨a1,a2⟩:=a
 obtain⟨b1,b2⟩:=b
 unfold Bef
 simp only [TItem.mk.injEq]
 omega
def Rise (l:List TRecord):Prop:=l.Pairwise fun a b=>Bef a.At b.At
def Once (l:List TRecord):Prop:=l.Pairwise fun a b=>a.At≠b.At
theorem Rise.once {l:List TRecord} (h:Rise l):Once l:=by
 unfold Rise at h
 unfold Once
 exact h.imp fun {a b} (h:Bef a.At b.At) (e:a.At=b.At)=>Bef.irr b.At (e▸h)
theorem rise_uniq:∀ {l m:List TRecord},Rise l→Rise m→(∀r,r∈l↔r∈m)→l=m
 | [], [],_,_,_=>rfl
 | [],y::m,_,_,h=>by have:=(h y).2 List.mem_cons_self;cases this
 |x::l, [],_,_,h=>by have:=(h x).1 List.mem_cons_self;cases this
 |x::l,y::m,hl,hm,h=>by
  unfold Rise at hl hm
  simp only [List.pairwise_cons]at hl hm
  have e:x=y:=by
   rcases List.mem_cons.1 ((h x).1 List.mem_cons_self)with e|h1
   · exact e
   · rcases List.mem_cons.1 ((h y).2 List.mem_cons_self)with e|h2
     · exact e.symm
     · exact absurd ((hm.1 x h1).trans (hl.1 y h2)) (Bef.irr _)
  subst e
  congr 1
  refine rise_uniq hl.2 hm.2 fun r=> ?_
  constructor
  · intro hr
    rcases List.mem_cons.1 ((h r).1 (List.mem_cons_of_mem _ hr))with e|h1
    · subst e;exact absurd (hl.1 r hr) (Bef.irr _)
    · exact h1
  · intro hr
    rcases List.mem_cons.1 ((h r).2 (List.mem_cons_of_mem _ hr))with e|h1
    · subst e;exact absurd (hm.1 r hr) (Bef.irr _)
    · exact h1
end Go.Proofs.YtggdlgclohnbaaaGreatDoor
namespace Go.Proofs.YtggdlgclohnbaaaGreatDoor
open Go Go.Sx
def StepB (p:List TRecord) (r:TRecord):Prop:=RecOK r∧(∀y,p.getLast?=some y→Bef y.At r.At)∧((cnt p r.At.Depot:Nat):Int)=r.At.No
def BookP (l:List TRecord):Prop:=∀(i:Nat) (r:TRecord),l[i]?=some r→StepB (l.take i) r
def BookOK (l:List TRecord):Prop:=l.length≤60∧BookP l
theorem BookP.nil:BookP []:=fun i r h=>by simp at h
theorem bookP_snoc {l:List TRecord} {r:TRecord}:BookP (l++ [r])↔BookP l∧StepB l r:=by
 constructor
 · intro h
   refine⟨fun i x hx=> ?_, ?_⟩
   · obtain⟨hi,rfl⟩:=List.getElem?_eq_some_iff.1 hx
     have:=h i l[i] (by rw [List.getElem?_append_left hi,hx])
     rwa [List.take_append_of_le_length (Nat.le_of_lt hi)]at this
   · have:=h l.length r (by simp)
     simpa using this
 · intro⟨h,hr⟩ i x hx
   rcases Nat.lt_trichotomy i l.length with h1|h1|h1
   · rw [List.getElem?_append_left h1]at hx
     have:=h i x hx
     rwa [List.take_append_of_le_length (Nat.le_of_lt h1)]
   · subst h1
     simp at hx
     subst hx
     simpa using hr
   · rw [List.getElem?_eq_none (by simp;omega)]at hx;cases hx
theorem BookP.facts:∀(n:Nat) {l:List TRecord},l.length=n→BookP l→(∀r∈l,RecOK r)∧Rise l∧∀x,l.getLast?=some x→(∀r∈l,r=x∨Bef r.At x.At)∧((cnt l x.At.Depot:Nat):Int)=x.At.No+1∧∀d,x.At.Depot<d→cnt l d=0
 |0,l,hn,_=>by
  obtain rfl:=List.length_eq_zero_iff.1 hn
  exact⟨by simp,List.Pairwise.nil,by simp⟩
 |n+1,l,hn,h=>by
  rcases List.eq_nil_or_concat l with rfl|⟨L,b,rfl⟩
  · simp at hn
  · rw [List.concat_eq_append]at h hn⊢
    obtain⟨h1,h2⟩:=bookP_snoc.1 h
    obtain⟨f1,f2,f3⟩:=BookP.facts n (by simpa using hn) h1
    obtain⟨b1,b2,b3⟩:=h2
    have hb:∀r∈L,Bef r.At b.At:=fun r hr=>by
     cases hg:L.getLast? with
     |none=>rw [List.getLast?_eq_none_iff]at hg;subst hg;cases hr
     |some y=>
      rcases(f3 y hg).1 r hr with e|e
      · rw [e];exact b2 y hg
      · exact e.trans (b2 y hg)
    refine⟨fun r hr=> ?_, ?_,fun x hx=> ?_⟩
    · rcases List.mem_append.1 hr with hr|hr
      · exact f1 r hr
      · obtain rfl:=List.mem_singleton.1 hr;exact b1
    · unfold Rise at f2⊢
      rw [List.pairwise_append]
      exact⟨f2,List.pairwise_singleton _ _,fun a ha c hc=>by obtain rfl:=List.mem_singleton.1 hc;exact hb a ha⟩
    · rw [List.getLast?_concat]at hx
      cases hx
      refine⟨fun r hr=> ?_, ?_,fun d hd=> ?_⟩
      · rcases List.mem_append.1 hr with hr|hr
        · exact .inr (hb r hr)
        · exact .inl (List.mem_singleton.1 hr)
      · rw [cnt_snoc,if_pos rfl];omega
      · rw [cnt_snoc,if_neg (by omega)]
        cases hg:L.getLast? with
        |none=>rw [List.getLast?_eq_none_iff]at hg;subst hg;rfl
        |some y=>
         have:=b2 y hg
         have:=(f3 y hg).2.2 d (by unfold Bef at this;omega)
         omega
theorem BookP.rec {l:List TRecord} (h:BookP l) {r:TRecord} (hr:r∈l):RecOK r:=(BookP.facts _ rfl h).1 r hr
theorem BookP.rise {l:List TRecord} (h:BookP l):Rise l:=(BookP.facts _ rfl h).2.1
theorem BookP.dep {l:List TRecord} (h:BookP l) {r:TRecord} (hr:r∈l):DepOK r.At.Depot:=rec_dep (h.rec hr)
open Classical in theorem book_loop {S E : Type} {body : S → Option (Sum S E)} (l : List TRecord) (hl : l.length ≤ 9223372036854775800) (enc : Nat → S) (yes no : E)
    (h : ∀ (i : Nat) (hi : i < l.length), BookP (l.take i) → body (enc i) = some (if StepB (l.take i) l[i] then .inl (enc (i + 1)) else .inr no))
    (he : body (enc l.length) = some (.inr yes)) : loopF body (enc 0) = some (if BookP l then yes else no) := by
  have key := loop_list (body := body) l (by omega) (fun k (_ : List TRecord) => enc k) (fun p x => if StepB p x then .inl (p ++ [x]) else .inr ()) (fun _ : Unit => no) (fun _ => yes) (fun pre s => s = pre ∧ BookP pre)
    (fun pre x post s hp ⟨hs, hb⟩ => by
      subst hs
      have hlt : s.length < l.length := by rw [hp]; simp
      have e1 : l.take s.length = s := by rw [hp]; simp
      have e2 : l[s.length] = x := by simp only [hp]; simp
      have := h s.length hlt (by rw [e1]; exact hb)
      rw [e1, e2] at this
      by_cases hk : StepB s x
      · rw [if_pos hk] at this ⊢
        exact ⟨this, fun s' hs' => by cases hs'; exact ⟨rfl, bookP_snoc.2 ⟨hb, hk⟩⟩⟩
      · rw [if_neg hk] at this ⊢
        exact ⟨this, fun s' hs' => by cases hs'⟩) (fun s _ => he) [] ⟨rfl, BookP.nil⟩
  rw [key]
  have run : ∀ (post pre : List TRecord), BookP pre → runL (R := Unit) (fun p x => if StepB p x then .inl (p ++ [x]) else .inr ()) post pre = if BookP (pre ++ post) then .inl (pre ++ post) else .inr () := by
    intro post
    induction post with
    | nil => intro pre hp; simp [runL, hp]
    | cons x post ih =>
      intro pre hp
      unfold runL
      by_cases hk : StepB pre x
      · rw [if_pos hk]
        dsimp only
        rw [ih _ (bookP_snoc.2 ⟨hp, hk⟩)]
        simp
      · rw [if_neg hk]
        have : ¬ BookP (pre ++ x :: post) := fun hb => hk (by
          have := hb pre.length x (by simp)
          simpa using this)
        rw [if_neg this]
  rw [run l [] BookP.nil, List.nil_append]
  by_cases hb : BookP l <;> simp [hb]
def lastT (p:List TRecord):Int×Int:=match p.getLast? with|none=>(-1,0)|some y=>(y.At.Depot,y.At.No)
theorem lastT_snoc (p:List TRecord) (r:TRecord):lastT (p++ [r])=(r.At.Depot,r.At.No):=by unfold lastT;rw [List.getLast?_concat]
theorem stepB_iff {p:List TRecord} {r:TRecord} (h:BookP p) (hr:RecOK r):StepB p r↔(r.At.Depot=(lastT p).1∧r.At.No=(lastT p).2+1)∨((lastT p).1<r.At.Depot∧r.At.No=0):=by
 have hd:=rec_dep hr
 unfold DepOK at hd
 obtain⟨f1,f2,f3⟩:=BookP.facts _ rfl h
 unfold StepB lastT
 cases hg:p.getLast? with
 |none=>
  rw [List.getLast?_eq_none_iff]at hg
  subst hg
  simp only [cnt_nil,reduceCtorEq,false_implies,implies_true,true_and,hr]
  omega
 |some y=>
  obtain⟨_,g2,g3⟩:=f3 y hg
  simp only [Option.some.injEq,forall_eq',hr,true_and]
  unfold Bef
  rcases Int.lt_trichotomy r.At.Depot y.At.Depot with h1|h1|h1
  · omega
  · rw [h1];omega
  · have:=g3 _ h1
    omega
open Classical in theorem isBook_eq (b : TBook) (hl : b.Records.length ≤ 9223372036854775800) (hs : ∀ r ∈ b.Records, r.Text.size ≤ 9223372036854775807) : m_depot_isBook b = some (decide (BookOK b.Records)) := by
  obtain ⟨l⟩ := b
  dsimp only at hl hs
  unfold m_depot_isBook
  have key := book_loop (body := m_depot_isBook_L1 ⟨l⟩) l hl (fun k => ((k : Int), (lastT (l.take k)).1, (lastT (l.take k)).2)) (.inl ((l.length : Int), (lastT l).1, (lastT l).2)) (.inr false)
    (fun i hi hb => by
      unfold m_depot_isBook_L1
      dsimp only
      rw [if_pos (by simp only [decide_eq_true_eq]; omega), idx_n hi, Option.bind_some, List.take_succ_eq_append_getElem hi, lastT_snoc, isRecord_eq _ (hs _ (List.getElem_mem hi)), W_s (by omega)]
      by_cases hok : RecOK l[i]
      · have hn : 0 ≤ l[i].At.No ∧ l[i].At.No ≤ 9999 := hok.1.2
        have hn2 : (lastT (l.take i)).2 + 1 ≤ 9223372036854775807 ∧ -9223372036854775808 ≤ (lastT (l.take i)).2 + 1 := by
          unfold lastT
          cases hg : (l.take i).getLast? with
          | none => decide
          | some y =>
            have : 0 ≤ y.At.No ∧ y.At.No ≤ 9999 := (hb.rec (List.mem_of_getLast? hg)).1.2
            dsimp only
            omega
        rw [W_id (z := (lastT (l.take i)).2 + 1) ⟨hn2.2, hn2.1⟩]
        simp only [hok, decide_true, Bool.not_true, Option.bind_some, Bool.false_eq_true, if_false, beq_iff_eq, decide_eq_true_eq, Bool.not_eq_true', beq_eq_false_iff_ne, ne_eq]
        have hq := stepB_iff hb hok
        by_cases hS : StepB (l.take i) l[i]
        · rw [if_pos hS]
          rcases hq.1 hS with ⟨a1, a2⟩ | ⟨a1, a2⟩
          · rw [if_pos a1, if_pos a2]; rfl
          · rw [if_neg (by omega), if_pos a1, if_neg (by decide), if_neg (fun hh => hh a2)]
        · rw [if_neg hS]
          have hq2 := fun hh => hS (hq.2 hh)
          by_cases a1 : l[i].At.Depot = (lastT (l.take i)).1
          · rw [if_pos a1, if_neg (fun a2 => hq2 (.inl ⟨a1, a2⟩)), if_neg (by omega)]
            split <;> rfl
          · rw [if_neg a1]
            by_cases a3 : l[i].At.Depot > (lastT (l.take i)).1
            · rw [if_pos a3, if_neg (by decide), if_pos (fun a2 => hq2 (.inr ⟨a3, a2⟩))]
            · rw [if_neg a3]
              split <;> rfl
      · have hS : ¬ StepB (l.take i) l[i] := fun hS => hok hS.1
        simp only [hok, decide_false, Bool.not_false, Option.bind_some, if_true, hS, if_false]
        split
        · split
          · rfl
          · split <;> rfl
        · split <;> rfl)
    (by unfold m_depot_isBook_L1; dsimp only; rw [if_neg (by simp), List.take_length])
  have e0 : loopF (m_depot_isBook_L1 ⟨l⟩) (0, -1, 0) = _ := key
  rw [e0, Option.bind_some]
  unfold BookOK
  by_cases hb : BookP l
  · rw [if_pos hb]
    dsimp only
    simp only [hb, and_true]
    congr 1
    by_cases h60 : l.length ≤ 60
    · simp only [h60, decide_true, decide_eq_true_eq]; omega
    · simp only [h60, decide_false, decide_eq_false_iff_not]; omega
  · rw [if_neg hb]
    simp [hb]
end Go.Proofs.YtggdlgclohnbaaaGreatDoor
namespace Go.Proofs.YtggdlgclohnbaaaGreatDoor
open Go Go.Sx
theorem ltR (a b:TRecord):Go.Proofs.ltOf cmpR a b=true↔Bef a.At b.At:=by
 unfold Go.Proofs.ltOf Bef
 rw [decide_eq_true_iff]
 unfold cmpR
 have hc:∀x y:Int,(cmpI x y= -1∧x<y)∨(cmpI x y=1∧y<x)∨(cmpI x y=0∧x=y):=fun x y=>by
  unfold cmpI
  by_cases h1:x<y
  · exact .inl ⟨by rw [if_pos h1],h1⟩
  · by_cases h2:x>y
    · exact .inr (.inl ⟨by rw [if_neg h1,if_pos h2],h2⟩)
    · exact .inr (.inr ⟨by rw [if_neg h1,if_neg h2],by omega⟩)
 rcases hc a.At.Depot b.At.Depot with⟨e1,g1⟩|⟨e1,g1⟩|⟨e1,g1⟩<;>rcases hc a.At.No b.At.No with⟨e2,g2⟩|⟨e2,g2⟩|⟨e2,g2⟩<;>rw [e1,e2]<;>simp [orI]<;>omega
theorem sortR_perm (l:List TRecord):(sortR l).Perm l:=by
 obtain⟨⟨h1,_,h3⟩,_⟩:=sortA_facts l
 have e1:(sortA l).extract 0 l.toArray.size=sortA l:=by rw [←h1];simp
 have e2:l.toArray.extract 0 l.toArray.size=l.toArray:=by simp
 rw [e1,e2]at h3
 simpa [sortR]using h3
theorem Once.perm {l m:List TRecord} (h:Once l) (p:l.Perm m):Once m:=by
 unfold Once at*
 exact(p.pairwise_iff (fun {a b} (h:a.At≠b.At)=>h.symm)).1 h
theorem sortR_rise {l:List TRecord} (h:Once l):Rise (sortR l):=by
 have ho:Once (sortR l):=h.perm (sortR_perm l).symm
 obtain⟨⟨h1,_,_⟩,h2⟩:=sortA_facts l
 unfold Once at ho
 unfold Rise
 rw [List.pairwise_iff_getElem]at ho⊢
 intro i j hi hj hij
 have hne:=ho i j hi hj hij
 have hs:(sortR l).length=(sortA l).size:=by simp [sortR]
 have hlt:=h2 i j (Nat.zero_le _) hij (by rw [←h1];omega)
 have e1:(sortA l)[j]! =(sortR l)[j]:=by simp only [sortR];rw [getElem!_pos (sortA l) j (by omega)];simp
 have e2:(sortA l)[i]! =(sortR l)[i]:=by simp only [sortR];rw [getElem!_pos (sortA l) i (by omega)];simp
 rw [e1,e2]at hlt
 have hn:¬Bef (sortR l)[j].At (sortR l)[i].At:=fun hb=>by rw [(ltR _ _).2 hb]at hlt;cases hlt
 rcases Bef.tri (sortR l)[i].At (sortR l)[j].At with g|g|g
 · exact g
 · exact absurd g hne
 · exact absurd g hn
theorem sortR_uniq {l m:List TRecord} (h:Rise m) (p:m.Perm l):sortR l=m:=by
 refine rise_uniq (sortR_rise (h.once.perm p)) h fun r=> ?_
 rw [(sortR_perm l).mem_iff,p.mem_iff]
theorem Written.once {l:List TRecord} (h:Written l):Once l:=by
 unfold Once
 rw [List.pairwise_iff_getElem]
 intro i j hi hj hij he
 have a:=(h i _ (List.getElem?_eq_getElem hi)).2.2
 have b:=(h j _ (List.getElem?_eq_getElem hj)).2.2
 have hd:l[i].At.Depot=l[j].At.Depot:=by rw [he]
 have hn:l[i].At.No=l[j].At.No:=by rw [he]
 have e:cnt (l.take (i+1)) l[i].At.Depot=cnt (l.take i) l[i].At.Depot+1:=by
  rw [List.take_succ_eq_append_getElem hi,cnt_snoc,if_pos rfl]
 have m:cnt (l.take (i+1)) l[i].At.Depot≤cnt (l.take j) l[i].At.Depot:=by
  have:l.take (i+1)=(l.take j).take (i+1):=by rw [List.take_take,Nat.min_eq_left (by omega)]
  rw [this]
  exact(List.take_sublist _ _).countP_le
 rw [←hd,←hn]at b
 omega
end Go.Proofs.YtggdlgclohnbaaaGreatDoor
namespace Go.Proofs.YtggdlgclohnbaaaGreatDoor
open Go Go.Sx
theorem Compare_eq (x y:Int):m_cmp_Compare_int x y=some (if x<y then-1 else if x>y then 1 else 0):=by
 unfold m_cmp_Compare_int m_cmp_isNaN_int
 simp only [bne_self_eq_false,Option.bind_some,Bool.false_eq_true,if_false,decide_eq_true_eq]
 by_cases h:x<y
 · simp [h]
 · by_cases h2:x>y<;>simp [h,h2]
theorem Or_eq (a b:Int):m_cmp_Or_int [a,b]=some (if a≠0 then a else b):=by
 unfold m_cmp_Or_int
 have key:=loop_list (body:=m_cmp_Or_int_L1 [a,b]) [a,b] (by simp) (fun k (_:Unit)=>(k:Int)) (fun _ (x:Int)=>if x≠0 then(.inr x:Sum Unit Int)else .inl ()) (fun x=> .inr x) (fun _=> .inl 2) (fun _ _=>True)
  (fun pre x post s hp _=>by
   have hlen:pre.length≤1:=by
    have:=congrArg List.length hp
    simp at this;omega
   rw [hp]
   unfold m_cmp_Or_int_L1
   rw [if_pos (by simp only [decide_eq_true_eq];exact lt_pre),idx_pre,Option.bind_some,W_s (by omega)]
   by_cases h:x=0
   · simp [h]
   · simp [h])
  (fun s _=>rfl) () trivial
 have key2:loopF (m_cmp_Or_int_L1 [a,b]) 0=_:=key
 rw [key2]
 by_cases ha:a=0
 · by_cases hb:b=0
   · simp [runL,ha,hb]
   · simp [runL,ha,hb]
 · simp [runL,ha]
theorem find1_eq (r:TRecord) (t:TItem):m_depot_find_1 r t=some (if Bef r.At t then-1 else if r.At=t then 0 else 1):=by
 unfold m_depot_find_1 m_depot_compare
 simp only [Compare_eq,Option.bind_some,Or_eq]
 obtain⟨⟨d,n⟩,_⟩:=r
 obtain⟨e,m⟩:=t
 unfold Bef
 simp only [TItem.mk.injEq,Option.some.injEq]
 rcases Int.lt_trichotomy d e with h1|h1|h1
 · simp [h1]
 · subst h1
   rcases Int.lt_trichotomy n m with h2|h2|h2
   · simp [h2]
   · simp [h2]
   · have a:¬n<m:=by omega
     have b:¬n=m:=by omega
     simp [h2,a,b]
 · have a:¬d<e:=by omega
   have b:¬d=e:=by omega
   simp [h1,a,b]
theorem u64_id {z:Int} (h:0≤z∧z≤18446744073709551615):IntKind.u64.wrap z=z:=by
 simp only [IntKind.wrap,IntKind.signed,IntKind.bits]
 simp
 omega
theorem half (i j:Nat) (h:i+j≤9223372036854775807):W ((IntKind.u64.wrap (W ((i:Int)+(j:Int)))).fdiv (2^(min (1:Int).toNat IntKind.u64.bits)))=(((i+j) / 2:Nat):Int):=by
 have e:(2:Int)^(min (1:Int).toNat IntKind.u64.bits)=2:=by decide
 rw [e,W_id (z:=(i:Int)+j) (by omega),u64_id (by omega),Int.fdiv_eq_ediv_of_nonneg _ (by omega)]
 have e2:((i:Int)+j) / 2=(((i+j) / 2:Nat):Int):=by simp
 rw [e2,W_id (by omega)]
theorem find_eq (l:List TRecord) (hl:l.length≤4611686018427387903) (hs:Rise l) (t:TItem):∃i:Nat,m_depot_find ⟨l⟩ t=some ((i:Int),decide (∃v,l[i]?=some v∧v.At=t))∧(∀v,v∈l→v.At=t→l[i]?=some v):=by
 unfold m_depot_find m_slices_BinarySearchFunc_api_Record_api_Record_api_Item__depot_find_1
 have hlt2:∀(i j:Nat) (hi:i<l.length) (hj:j<l.length),i<j→Bef l[i].At l[j].At:=fun i j hi hj hij=>List.pairwise_iff_getElem.1 hs i j hi hj hij
 have hmono:∀(i j:Nat) (hi:i<l.length) (hj:j<l.length),i≤j→Bef l[j].At t→Bef l[i].At t:=by
  intro i j hi hj hij hb
  rcases Nat.lt_or_eq_of_le hij with h|h
  · exact(hlt2 i j hi hj h).trans hb
  · subst h;exact hb
 obtain⟨e,h1,i,h2,h3,h4,h5⟩:=loop_rule (body:=m_slices_BinarySearchFunc_api_Record_api_Record_api_Item__depot_find_1_L1 l t) (fun st:Int×Int=>∃i j:Nat,st=((i:Int),(j:Int))∧i≤j∧j≤l.length∧(∀k (hk:k<l.length),k<i→Bef l[k].At t)∧(∀k (hk:k<l.length),j≤k→¬Bef l[k].At t))
  (fun st=>(st.2-st.1).toNat) (fun st=>∃i:Nat,st=((i:Int),(i:Int))∧i≤l.length∧(∀k (hk:k<l.length),k<i→Bef l[k].At t)∧(∀k (hk:k<l.length),i≤k→¬Bef l[k].At t)) (by
  rintro⟨_,_⟩ ⟨i,j,he,hij,hj,ha,hb⟩
  cases he
  unfold m_slices_BinarySearchFunc_api_Record_api_Record_api_Item__depot_find_1_L1
  by_cases hlt:i<j
  · right
    have c:(i:Int)<(j:Int):=by omega
    have hm:(i+j) / 2<l.length:=by omega
    simp only [c,decide_true,if_true,half i j (by omega),idx_n hm,Option.bind_some,find1_eq]
    by_cases hc:Bef l[(i+j) / 2].At t
    · refine⟨((((i+j) / 2+1:Nat):Int),(j:Int)), ?_,⟨(i+j) / 2+1,j,rfl,by omega,hj,fun k hk hki=> ?_,hb⟩,by simp only;omega⟩
      · simp only [hc,if_true,show decide ((-1:Int)<0)=true from rfl]
        rw [W_id (z:=(((i+j) / 2:Nat):Int)+1) (by omega)];rfl
      · exact hmono k ((i+j) / 2) hk hm (by omega) hc
    · refine⟨((i:Int),(((i+j) / 2:Nat):Int)), ?_,⟨i,(i+j) / 2,rfl,by omega,by omega,ha,fun k hk hki=> ?_⟩,by simp only;omega⟩
      · have:decide ((if l[(i+j) / 2].At=t then(0:Int)else 1)<0)=false:=by split<;>rfl
        simp only [hc,if_false,this,Bool.false_eq_true]
      · exact fun h=>hc (hmono ((i+j) / 2) k hm hk hki h)
  · left
    have c:¬(i:Int)<(j:Int):=by omega
    obtain rfl:i=j:=by omega
    exact⟨_,by simp only [c,decide_false,Bool.false_eq_true,if_false],i,rfl,hj,ha,hb⟩) (0,(l.length:Int)) ⟨0,l.length,rfl,by omega,by omega,by omega,by omega⟩ (by unfold FUEL;simp only;omega)
 subst h2
 rw [h1]
 refine⟨i, ?_,fun v hv he=> ?_⟩
 · by_cases hi:i<l.length
   · have c:(i:Int)<(l.length:Int):=by omega
     have hge:=h5 i hi (Nat.le_refl _)
     simp only [Option.bind_some,c,decide_true,if_true,idx_n hi,find1_eq,hge,if_false,List.getElem?_eq_getElem hi,Option.some.injEq,exists_eq_left']
     by_cases he:l[i].At=t<;>simp [he]
   · have c:¬(i:Int)<(l.length:Int):=by omega
     simp only [Option.bind_some,c,decide_false,Bool.false_eq_true,if_false]
     rw [List.getElem?_eq_none (by omega)]
     simp
 · obtain⟨k,hk,rfl⟩:=List.getElem_of_mem hv
   rcases Nat.lt_trichotomy k i with g|g|g
   · have:=h4 k hk g
     rw [he]at this
     exact absurd this (Bef.irr _)
   · subst g;exact List.getElem?_eq_getElem hk
   · have hi:i<l.length:=by omega
     have:=hlt2 i k hi hk g
     rw [he]at this
     exact absurd this (h5 i hi (Nat.le_refl _))
end Go.Proofs.YtggdlgclohnbaaaGreatDoor
namespace Go.Proofs.YtggdlgclohnbaaaGreatDoor
open Go Go.Sx
def fnd (l:List TRecord) (t:TItem):Option TRecord:=l.find? fun v=>decide (v.At=t)
theorem fnd_some {l:List TRecord} {t:TItem} {v:TRecord} (h:fnd l t=some v):v∈l∧v.At=t:=
 ⟨List.mem_of_find?_eq_some h,by simpa using List.find?_some h⟩
theorem fnd_none {l:List TRecord} {t:TItem} (h:fnd l t=none):∀v∈l,v.At≠t:=fun v hv=>by
 have:=List.find?_eq_none.1 h v hv
 simpa using this
theorem find_use (l:List TRecord) (hl:l.length≤1000000) (hs:Rise l) (t:TItem):∃i:Int,m_depot_find ⟨l⟩ t=some (i,(fnd l t).isSome)∧∀v,fnd l t=some v→idx l i=some v:=by
 obtain⟨i,h1,h2⟩:=find_eq l (by omega) hs t
 refine⟨(i:Int), ?_,fun v hv=> ?_⟩
 · rw [h1]
   congr 2
   cases hf:fnd l t with
   |none=>
    have hn:=fnd_none hf
    simp only [Option.isSome_none,decide_eq_false_iff_not]
    rintro⟨v,hv,he⟩
    exact hn v (List.mem_of_getElem? hv) he
   |some v=>
    obtain⟨g1,g2⟩:=fnd_some hf
    simp only [Option.isSome_some,decide_eq_true_eq]
    exact⟨v,h2 v g1 g2,g2⟩
 · obtain⟨g1,g2⟩:=fnd_some hv
   have h3:=h2 v g1 g2
   obtain⟨hi,he⟩:=List.getElem?_eq_some_iff.1 h3
   rw [idx_n hi,he]
end Go.Proofs.YtggdlgclohnbaaaGreatDoor
namespace Go.Proofs.YtggdlgclohnbaaaGreatDoor
open Go Go.Sx
abbrev N5:=Int×Int×Int×Int×Int
def I64 (x:Int):Prop:= -9223372036854775808≤x∧x≤9223372036854775807
def N5OK (n:N5):Prop:=I64 n.1∧I64 n.2.1∧I64 n.2.2.1∧I64 n.2.2.2.1∧I64 n.2.2.2.2
theorem texts_ok (n:Int) (h:I64 n):∃t,m_R08_texts n=some t∧TextOK t:=by
 unfold m_R08_texts
 rw [Mod_eq n 6 h (by omega),Option.bind_some]
 have hc:n % 6=0∨n % 6=1∨n % 6=2∨n % 6=3∨n % 6=4∨n % 6=5:=by omega
 rcases hc with e|e|e|e|e|e<;>rw [e]<;>exact⟨_,rfl,by decide+kernel⟩
theorem next_ok (l:List TRecord) (n:N5) (hl:l.length≤59) (hd:∀r∈l,DepOK r.At.Depot) (h:N5OK n):∃r,m_R08_Next l n=some r∧RecOK r∧NextOK l r∧r.At.Depot≤2:=by
 obtain⟨h1,h2,h3,h4,h5⟩:=h
 unfold m_R08_Next
 have hdep:DepOK (n.1 % 3):=by unfold DepOK;omega
 have hc:=idx_cnt l hdep
 rw [lst6]at hc
 have hle:=cnt_le l (n.1 % 3)
 rw [Mod_eq n.1 3 h1 (by omega),Option.bind_some,many_eq l (by omega) hd,Option.bind_some,hc,Option.bind_some,Mod_eq n.2.1 6 h2 (by omega),Option.bind_some,Mod_eq n.2.2.1 50 h3 (by omega),Option.bind_some,Mod_eq n.2.2.2.1 50 h4 (by omega),Option.bind_some]
 generalize hcn:cnt l (n.1 % 3)=c at hle
 obtain⟨t,e1,e2⟩:=texts_ok n.2.2.2.2 h5
 have m6:0≤n.2.1 % 6∧n.2.1 % 6≤5:=by omega
 have m50:0≤n.2.2.1 % 50∧n.2.2.1 % 50≤49:=by omega
 have n50:0≤n.2.2.2.1 % 50∧n.2.2.2.1 % 50≤49:=by omega
 have m3:0≤n.1 % 3∧n.1 % 3≤2:=by omega
 by_cases a:n.2.1 % 6=0
 · rw [if_pos (by simpa using a)]
   by_cases b:0<c
   · rw [if_pos (by simpa using b),Mod_eq n.2.2.1 c h3 (by omega),Option.bind_some]
     have hm1:=Int.emod_nonneg n.2.2.1 (show(c:Int)≠0 by omega)
     have hm2:=Int.emod_lt_of_pos n.2.2.1 (show(0:Int)<c by omega)
     refine⟨_,rfl, ?_, ?_,by dsimp only;omega⟩
     · unfold RecOK ItemOK
       dsimp only
       rw [if_pos a,a]
       exact⟨by omega,by omega,by omega,by omega,by decide+kernel,rfl,rfl,by omega,rfl,by omega⟩
     · unfold NextOK
       dsimp only
       exact⟨by omega,by rw [hcn]⟩
   · rw [if_neg (by simpa using b),e1,Option.bind_some]
     refine⟨_,rfl, ?_, ?_,by dsimp only;omega⟩
     · unfold RecOK ItemOK
       dsimp only
       rw [if_neg (by decide)]
       exact⟨by omega,by omega,by omega,by omega,e2,rfl⟩
     · unfold NextOK
       dsimp only
       exact⟨by omega,by rw [hcn]⟩
 · rw [if_neg (by simpa using a),e1,Option.bind_some]
   refine⟨_,rfl, ?_, ?_,by dsimp only;omega⟩
   · unfold RecOK ItemOK
     dsimp only
     rw [if_neg a]
     exact⟨by omega,by omega,by omega,by omega,e2,rfl⟩
   · unfold NextOK
     dsimp only
     exact⟨by omega,by rw [hcn]⟩
end Go.Proofs.YtggdlgclohnbaaaGreatDoor
namespace Go.Proofs.YtggdlgclohnbaaaGreatDoor
open Go Go.Sx
def low (l:List TRecord) (d n:Int):Nat:=l.countP fun r=>r.At.Depot==d&&decide (r.At.No<n)
theorem low_snoc (l:List TRecord) (r:TRecord) (d n:Int):low (l++ [r]) d n=low l d n+if r.At.Depot=d∧r.At.No<n then 1 else 0:=by
 unfold low
 rw [List.countP_append,List.countP_singleton]
 congr 1
 by_cases a:r.At.Depot=d<;>by_cases b:r.At.No<n<;>simp [a,b]
theorem Written.pre {l:List TRecord} {r:TRecord} (h:Written (l++ [r])):Written l∧RecOK r∧NextOK l r:=by
 refine⟨fun i x hx=> ?_, ?_⟩
 · obtain⟨hi,rfl⟩:=List.getElem?_eq_some_iff.1 hx
   have:=h i l[i] (by rw [List.getElem?_append_left hi,hx])
   rwa [List.take_append_of_le_length (Nat.le_of_lt hi)]at this
 · have:=h l.length r (by simp)
   simpa using this
theorem Written.low:∀(k:Nat) {l:List TRecord},l.length=k→Written l→(∀r∈l,r.At.No<((cnt l r.At.Depot:Nat):Int))∧∀(d:Int) (n:Nat),n≤cnt l d→low l d n=n
 |0,l,hk,_=>by
  obtain rfl:=List.length_eq_zero_iff.1 hk
  exact⟨by simp,fun d n hn=>by rw [cnt_nil]at hn;unfold Proofs.YtggdlgclohnbaaaGreatDoor.low;simp;omega⟩
 |k+1,l,hk,h=>by
  rcases List.eq_nil_or_concat l with rfl|⟨L,b,rfl⟩
  · simp at hk
  · rw [List.concat_eq_append]at h hk⊢
    obtain⟨h1,h2,h3,h4⟩:=h.pre
    obtain⟨f1,f2⟩:=Written.low k (by simpa using hk) h1
    refine⟨fun r hr=> ?_,fun d n hn=> ?_⟩
    · rw [cnt_snoc]
      rcases List.mem_append.1 hr with hr|hr
      · have:=f1 r hr
        split<;>omega
      · obtain rfl:=List.mem_singleton.1 hr
        rw [if_pos rfl];omega
    · rw [cnt_snoc]at hn
      rw [low_snoc]
      by_cases a:b.At.Depot=d
      · rw [if_pos a]at hn
        rw [a]at h4
        rcases Nat.lt_or_ge (cnt L d) n with g|g
        · obtain rfl:n=cnt L d+1:=by omega
          rw [if_pos ⟨a,by omega⟩]
          have e:Proofs.YtggdlgclohnbaaaGreatDoor.low L d ((cnt L d+1:Nat):Int)=Proofs.YtggdlgclohnbaaaGreatDoor.low L d ((cnt L d:Nat):Int):=by
           unfold Proofs.YtggdlgclohnbaaaGreatDoor.low
           apply List.countP_congr
           intro x hx
           have:=f1 x hx
           simp only [Bool.and_eq_true,beq_iff_eq,decide_eq_true_eq]
           constructor
           · rintro⟨a1,_⟩;rw [a1]at this;exact⟨a1,this⟩
           · rintro⟨a1,a2⟩;exact⟨a1,by omega⟩
          rw [e,f2 d _ (Nat.le_refl _)]
        · rw [if_neg (by omega),f2 d n g,Nat.add_zero]
      · rw [if_neg a]at hn
        rw [if_neg (fun x=>a x.1),f2 d n (by omega),Nat.add_zero]
theorem sorted_book {l:List TRecord} (h:Written l):BookOK (sortR l):=by
 have hp:=sortR_perm l
 have hr:=sortR_rise h.once
 obtain⟨f1,f2⟩:=Written.low _ rfl h
 refine⟨by rw [hp.length_eq];exact h.len,fun i r hi=> ?_⟩
 obtain⟨hlt,rfl⟩:=List.getElem?_eq_some_iff.1 hi
 have hm:(sortR l)[i]∈l:=hp.mem_iff.1 (List.getElem_mem hlt)
 refine⟨h.rec hm,fun y hy=> ?_, ?_⟩
 · have hj:0<i:=by
    rcases Nat.eq_zero_or_pos i with e|e
    · subst e;simp at hy
    · exact e
   rw [List.getLast?_eq_getElem?,List.length_take,Nat.min_eq_left (by omega),List.getElem?_take,if_pos (by omega)]at hy
   obtain⟨_,rfl⟩:=List.getElem?_eq_some_iff.1 hy
   exact List.pairwise_iff_getElem.1 hr (i-1) i (by omega) hlt (by omega)
 · have hno:0≤(sortR l)[i].At.No:=(h.rec hm).1.2.1
   have hl:=f1 _ hm
   obtain⟨k,hk⟩:∃k:Nat,(sortR l)[i].At.No=(k:Int):=⟨(sortR l)[i].At.No.toNat,by omega⟩
   have hlow:=f2 (sortR l)[i].At.Depot k (by omega)
   have e1:low (sortR l) (sortR l)[i].At.Depot k=low l (sortR l)[i].At.Depot k:=hp.countP_eq _
   have e2:low (sortR l) (sortR l)[i].At.Depot k=cnt ((sortR l).take i) (sortR l)[i].At.Depot:=by
    unfold low cnt
    have key:∀p:TRecord→Bool,(sortR l).countP p=((sortR l).take i).countP p+((sortR l).drop i).countP p:=fun p=>by
     rw [←List.countP_append,List.take_append_drop]
    rw [key]
    have z:((sortR l).drop i).countP (fun r=>r.At.Depot==(sortR l)[i].At.Depot&&decide (r.At.No<(k:Int)))=0:=by
     rw [List.countP_eq_zero]
     intro x hx
     obtain⟨j,hj,rfl⟩:=List.mem_drop_iff_getElem.1 hx
     simp only [Bool.and_eq_true,beq_iff_eq,decide_eq_true_eq]
     rintro⟨a1,a2⟩
     rcases Nat.eq_zero_or_pos j with e|e
     · subst e;simp only [Nat.add_zero]at a2;omega
     · have:=List.pairwise_iff_getElem.1 hr i (i+j) hlt (by omega) (by omega)
       unfold Bef at this
       omega
    rw [z,Nat.add_zero]
    apply List.countP_congr
    intro x hx
    obtain⟨j,hj,rfl⟩:=List.mem_take_iff_getElem.1 hx
    have:=List.pairwise_iff_getElem.1 hr j i (by omega) hlt (by omega)
    unfold Bef at this
    simp only [Bool.and_eq_true,beq_iff_eq,decide_eq_true_eq]
    constructor
    · exact fun a=>a.1
    · exact fun a=>⟨a,by omega⟩
   rw [←e2,e1,hlow,hk]
end Go.Proofs.YtggdlgclohnbaaaGreatDoor
namespace Go.Proofs.YtggdlgclohnbaaaGreatDoor
open Go Go.Sx
theorem Add_val (G:List TRecord) (x:TRecord) (hG:Written G) (hx:RecOK x) (hn:NextOK G x):m_depot_Add ⟨sortR G⟩ x=some (⟨sortR (G++ [x])⟩,0):=by
 have hp:=sortR_perm G
 have hB:=sorted_book hG
 have hw:=hG.snoc hx hn
 have hl:(sortR G).length<60:=by rw [hp.length_eq];exact hn.1
 have hts:∀r∈sortR G,r.Text.size≤9223372036854775807:=fun r hr=>by
  have:=rec_text (hG.rec (hp.mem_iff.1 hr));omega
 have hf:fnd (sortR G) x.At=none:=by
  cases hf:fnd (sortR G) x.At with
  |none=>rfl
  |some v=>
   obtain⟨g1,g2⟩:=fnd_some hf
   have ho:=hw.once
   unfold Once at ho
   rw [List.pairwise_append]at ho
   exact absurd g2 (ho.2.2 v (hp.mem_iff.1 g1) x (by simp))
 have hc:cnt (sortR G) x.At.Depot=cnt G x.At.Depot:=hp.countP_eq _
 obtain⟨i,h1,_⟩:=find_use (sortR G) (by omega) hB.2.rise x.At
 have hi:=idx_cnt (sortR G) (rec_dep hx)
 rw [lst6]at hi
 unfold m_depot_Add
 rw [isBook_eq ⟨sortR G⟩ (by dsimp only;omega) hts,isRecord_eq _ (by have:=rec_text hx;omega)]
 simp only [Option.bind_some,hB,hx,decide_true,Bool.not_true,Bool.false_eq_true,if_false]
 rw [h1,hf,Option.bind_some]
 dsimp only
 rw [if_neg (by simp),has_eq _ (by omega) (fun r hr=>hB.2.dep hr),Option.bind_some,hi,Option.bind_some,hc,hn.2,if_neg (by simp),if_neg (by simp only [beq_iff_eq];omega)]
 unfold m_slices_Clone_api_Record_api_Record m_depot_sorted
 rw [gd_t (by omega),Option.bind_some,gd_t (by simp only [List.length_cons,List.length_nil];omega),gd_t (by simp only [List.length_append,List.length_cons,List.length_nil];omega),Option.bind_some]
 rw [sortR_uniq (sortR_rise hw.once) ((sortR_perm (G++ [x])).trans (hp.symm.append_right [x]))]
end Go.Proofs.YtggdlgclohnbaaaGreatDoor
namespace Go.Proofs.YtggdlgclohnbaaaGreatDoor
open Go Go.Sx
theorem itoaB_small (n:Int) (h0:0≤n) (h1:n≤100000):(itoaB n).size≤6:=by
 obtain⟨u,rfl⟩:∃u:Nat,n=(u:Int):=⟨n.toNat,by omega⟩
 unfold itoaB
 rw [sz_data,Lib.itoa_nonneg]
 exact dec_len (by omega) (by omega)
theorem enc_small {r:TRecord} (h:RecOK r):1≤(encB r).size∧(encB r).size≤216:=by
 have hn:=recNs_ok h
 simp only [recNs,List.mem_cons,List.not_mem_nil,or_false,forall_eq_or_imp,forall_eq]at hn
 obtain⟨n1,n2,n3,n4,n5,n6,n7⟩:=hn
 have s1:=itoaB_small r.At.Depot n1.1 n1.2
 have s2:=itoaB_small r.At.No n2.1 n2.2
 have s3:=itoaB_small r.Kind n3.1 n3.2
 have s4:=itoaB_small r.Day n4.1 n4.2
 have s5:=itoaB_small r.Known n5.1 n5.2
 have s6:=itoaB_small r.Of.Depot n6.1 n6.2
 have s7:=itoaB_small r.Of.No n7.1 n7.2
 have hs:(⟨#[32]⟩:ByteArray).size=1:=rfl
 have ht:=rec_text h
 rw [encB_eq]
 generalize itoaB r.At.Depot=x1 at s1⊢
 generalize itoaB r.At.No=x2 at s2⊢
 generalize itoaB r.Kind=x3 at s3⊢
 generalize itoaB r.Day=x4 at s4⊢
 generalize itoaB r.Known=x5 at s5⊢
 generalize itoaB r.Of.Depot=x6 at s6⊢
 generalize itoaB r.Of.No=x7 at s7⊢
 generalize r.Text=x8 at ht⊢
 generalize (⟨#[32]⟩:ByteArray)=sp at hs⊢
 simp only [ByteArray.size_append,hs];omega
theorem piece_size (s:ByteArray) (i:Nat):(pieceB s i).size=min s.size (24*(i+1))-24*i:=by
 unfold pieceB;rw [ByteArray.size_extract];omega
theorem card_whole {r:TRecord} (h:RecOK r) {k i:Nat} (hk:k≤59) (hi:i<partsN (encB r).size):WholeP (cardB (encB r) (k:Int) i):=by
 obtain⟨h1,h2⟩:=enc_small h
 have hp:=piece_size (encB r) i
 unfold WholeP cardB
 dsimp only
 unfold partsN at hi⊢
 omega
theorem mem_ofK {c:TCard}:∀(F:List TRecord) (k:Nat),c∈ofK (k:Int) F↔∃(j i:Nat) (r:TRecord),F[j]?=some r∧i<partsN (encB r).size∧c=cardB (encB r) ((k+j:Nat):Int) i
 | [],k=>by simp [ofK]
 |x::F,k=>by
  have e:((k:Int)+1)=((k+1:Nat):Int):=rfl
  unfold ofK
  rw [List.mem_append,e,mem_ofK F (k+1)]
  constructor
  · rintro(h|⟨j,i,r,h1,h2,h3⟩)
    · unfold cardsF at h
      obtain⟨i,hi,rfl⟩:=List.mem_map.1 h
      exact⟨0,i,x,rfl,List.mem_range.1 hi,rfl⟩
    · exact⟨j+1,i,r,by simpa using h1,h2,by rw [h3];congr 1;omega⟩
  · rintro⟨j,i,r,h1,h2,h3⟩
    cases j with
    |zero=>
     left
     simp at h1
     subst h1
     unfold cardsF
     exact List.mem_map.2 ⟨i,List.mem_range.2 h2,h3.symm⟩
    |succ j=>
     right
     exact⟨j,i,r,by simpa using h1,h2,by rw [h3];congr 1;omega⟩
theorem mem_ofF {c:TCard} (F:List TRecord):c∈ofF F↔∃(j i:Nat) (r:TRecord),F[j]?=some r∧i<partsN (encB r).size∧c=cardB (encB r) (j:Int) i:=by
 have:=mem_ofK (c:=c) F 0
 unfold ofF
 simpa using this
theorem piece_at {l:List TCard} {F:List TRecord} (hF:Written F) (hl:∀c∈l,WholeP c→c∈ofF F) {j i:Nat} {r:TRecord} (hj:F[j]?=some r) (hi:i<partsN (encB r).size) (q:Int) (hq:q=0∨q=((partsN (encB r).size:Nat):Int)):
 pieceF l (j:Int) (i:Int) q=if cardB (encB r) (j:Int) i∈l then some (cardB (encB r) (j:Int) i)else none:=by
 have hlen:=hF.len
 obtain⟨hjl,hje⟩:=List.getElem?_eq_some_iff.1 hj
 have hr:RecOK r:=hF.rec (List.mem_of_getElem? hj)
 have uniq:∀c∈l,WholeP c→c.No=(j:Int)→c.Part=(i:Int)→c=cardB (encB r) (j:Int) i:=by
  intro c hc h0 h1 h2
  obtain⟨j',i',r',g1,g2,rfl⟩:=(mem_ofF F).1 (hl c hc h0)
  have e1:j'=j:=by have:(j':Int)=(j:Int):=h1;omega
  have e2:i'=i:=by have:(i':Int)=(i:Int):=h2;omega
  subst e1 e2
  rw [hj]at g1
  cases g1
  rfl
 unfold pieceF
 by_cases hm:cardB (encB r) (j:Int) i∈l
 · rw [if_pos hm]
   cases hf:l.find? (fun c=>decide (WholeP c∧c.No=(j:Int)∧c.Part=(i:Int)∧(q=0∨c.Parts=q)))with
   |none=>
    have:=List.find?_eq_none.1 hf _ hm
    refine absurd (decide_eq_true ?_) this
    exact⟨card_whole hr (by omega) hi,rfl,rfl,hq.imp id fun h=>h.symm⟩
   |some c=>
    have h0:=List.find?_some hf
    have h1:=of_decide_eq_true h0
    rw [uniq c (List.mem_of_find?_eq_some hf) h1.1 h1.2.1 h1.2.2.1]
 · rw [if_neg hm,List.find?_eq_none]
   intro c hc h1
   have h1:=of_decide_eq_true h1
   have:=uniq c hc h1.1 h1.2.1 h1.2.2.1
   rw [this]at hc
   exact hm hc
end Go.Proofs.YtggdlgclohnbaaaGreatDoor
namespace Go.Proofs.YtggdlgclohnbaaaGreatDoor
open Go Go.Sx
theorem ext_split (s:ByteArray) (i:Nat):pieceB s i++s.extract (24*(i+1)) s.size=s.extract (24*i) s.size:=by
 unfold pieceB
 apply ByteArray.ext
 apply Array.ext'
 have hsz:s.size=s.data.toList.length:=sz_data s
 simp only [ByteArray.data_append,ByteArray.data_extract,Array.toList_append,Array.toList_extract,List.extract]
 generalize s.data.toList=l at hsz⊢
 rw [hsz]
 rcases Nat.lt_or_ge (24*(i+1)) l.length with h|h
 · rw [Nat.min_eq_right (by omega)]
   have e1:l.drop (24*(i+1))=(l.drop (24*i)).drop 24:=by rw [List.drop_drop];rfl
   have e2:24*(i+1)-24*i=24:=by omega
   rw [e2,e1,List.take_of_length_le (l:=(l.drop (24*i)).drop 24) (by simp;omega),List.take_append_drop,List.take_of_length_le (by simp)]
 · rw [Nat.min_eq_left (by omega),List.drop_eq_nil_of_le h]
   simp
theorem ext_end (s:ByteArray) (a:Nat) (h:s.size≤a):s.extract a s.size=⟨#[]⟩:=by
 apply ByteArray.ext
 apply Array.ext'
 simp only [ByteArray.data_extract,Array.toList_extract,List.extract]
 rw [List.drop_eq_nil_of_le (by rw [←sz_data];exact h)]
 simp
theorem ext_all (s:ByteArray):s.extract 0 s.size=s:=by
 apply ByteArray.ext
 apply Array.ext'
 simp only [ByteArray.data_extract,Array.toList_extract,List.extract]
 rw [List.drop_zero,List.take_of_length_le (by rw [←sz_data];omega)]
section
variable {l : List TCard} {F : List TRecord} {j : Nat} {r : TRecord}
theorem gather_full (hF:Written F) (hl:∀c∈l,WholeP c→c∈ofF F) (hj:F[j]?=some r):∀(n i:Nat),i+n=partsN (encB r).size→(∀k,i≤k→k<partsN (encB r).size→cardB (encB r) (j:Int) k∈l)→gatherF l (j:Int) ((partsN (encB r).size:Nat):Int) n (i:Int)=some ((encB r).extract (24*i) (encB r).size)
 |0,i,hi,_=>by
  rw [ext_end _ _ (by unfold partsN at hi;omega)];rfl
 |n+1,i,hi,h=>by
  have e:((i:Int)+1)=((i+1:Nat):Int):=rfl
  unfold gatherF
  rw [piece_at hF hl hj (by omega) _ (.inr rfl),if_pos (h i (Nat.le_refl _) (by omega)),e]
  dsimp only
  rw [gather_full hF hl hj n (i+1) (by omega) fun k hk hk2=>h k (by omega) hk2]
  exact congrArg some (ext_split _ _)
theorem gather_miss (hF:Written F) (hl:∀c∈l,WholeP c→c∈ofF F) (hj:F[j]?=some r):∀(n i:Nat),i+n=partsN (encB r).size→(∃k,i≤k∧k<partsN (encB r).size∧cardB (encB r) (j:Int) k∉l)→gatherF l (j:Int) ((partsN (encB r).size:Nat):Int) n (i:Int)=none
 |0,i,hi,⟨k,h1,h2,_⟩=>by omega
 |n+1,i,hi,⟨k,h1,h2,h3⟩=>by
  have e:((i:Int)+1)=((i+1:Nat):Int):=rfl
  unfold gatherF
  rw [piece_at hF hl hj (by omega) _ (.inr rfl),e]
  by_cases hm:cardB (encB r) (j:Int) i∈l
  · rw [if_pos hm]
    dsimp only
    have:i≠k:=fun h=>h3 (h▸hm)
    rw [gather_miss hF hl hj n (i+1) (by omega) ⟨k,by omega,h2,h3⟩]
  · rw [if_neg hm]
theorem text_full (hF:Written F) (hl:∀c∈l,WholeP c→c∈ofF F) (hj:F[j]?=some r) (h:∀k,k<partsN (encB r).size→cardB (encB r) (j:Int) k∈l):textF l (j:Int)=some (encB r):=by
 have hr:RecOK r:=hF.rec (List.mem_of_getElem? hj)
 have hp:0<partsN (encB r).size:=by have:=(enc_small hr).1;unfold partsN;omega
 have h0:=piece_at hF hl hj hp 0 (.inl rfl)
 rw [if_pos (h 0 hp)]at h0
 have h0:pieceF l (j:Int) 0 0=_:=h0
 unfold textF
 rw [h0]
 have:=gather_full hF hl hj (partsN (encB r).size) 0 (by omega) fun k _ hk=>h k hk
 rw [Nat.mul_zero,ext_all]at this
 exact this
theorem text_miss (hF:Written F) (hl:∀c∈l,WholeP c→c∈ofF F) (hj:F[j]?=some r) (h:∃k,k<partsN (encB r).size∧cardB (encB r) (j:Int) k∉l):textF l (j:Int)=none:=by
 have hr:RecOK r:=hF.rec (List.mem_of_getElem? hj)
 have hp:0<partsN (encB r).size:=by have:=(enc_small hr).1;unfold partsN;omega
 have h0:=piece_at hF hl hj hp 0 (.inl rfl)
 have h0:pieceF l (j:Int) 0 0=_:=h0
 unfold textF
 rw [h0]
 obtain⟨k,h1,h2⟩:=h
 have:=gather_miss hF hl hj (partsN (encB r).size) 0 (by omega) ⟨k,Nat.zero_le _,h1,h2⟩
 split
 · rfl
 · rename_i c hc
   split at hc
   · cases hc;exact this
   · cases hc
theorem text_out (hl:∀c∈l,WholeP c→c∈ofF F) (hj:F.length≤j):textF l (j:Int)=none:=by
 have:pieceF l (j:Int) 0 0=none:=by
  unfold pieceF
  rw [List.find?_eq_none]
  intro c hc h1
  have h1:=of_decide_eq_true h1
  obtain⟨j',i',r',g1,g2,rfl⟩:=(mem_ofF F).1 (hl c hc h1.1)
  have e1:(j':Int)=(j:Int):=h1.2.1
  have:=(List.getElem?_eq_some_iff.1 g1).1
  omega
 unfold textF
 rw [this]
end
theorem open_sub {l:List TCard} {F:List TRecord} (hF:Written F) (hl:∀c∈l,WholeP c→c∈ofF F) (m:Nat) (hm:m≤F.length)
 (hall:∀(j:Nat) (r:TRecord),j<m→F[j]?=some r→∀k,k<partsN (encB r).size→cardB (encB r) (j:Int) k∈l)
 (hmiss:∀r,F[m]?=some r→∃k,k<partsN (encB r).size∧cardB (encB r) (m:Int) k∉l):openF l=F.take m:=by
 have hlen:=hF.len
 have key:∀(n k:Nat),k≤m→m-k<n→openG l n (F.take k)=F.take m:=by
  intro n
  induction n with
  |zero=>intro k _ h;omega
  |succ n ih=>
   intro k hk hn
   have hkl:(F.take k).length=k:=by simp;omega
   unfold openG
   rw [hkl]
   rcases Nat.lt_or_ge k m with h|h
   · have hkF:k<F.length:=by omega
     have hj:F[k]?=some F[k]:=List.getElem?_eq_getElem hkF
     have hw:=hF k _ hj
     rw [text_full hF hl hj (hall k _ h hj)]
     dsimp only
     rw [decF_enc hw.1]
     dsimp only
     rw [if_pos hw.2,←List.take_succ_eq_append_getElem hkF]
     exact ih (k+1) h (by omega)
   · obtain rfl:k=m:=by omega
     cases hj:F[k]? with
     |none=>rw [text_out hl (by have:=List.getElem?_eq_none_iff.1 hj;exact this)]
     |some r=>rw [text_miss hF hl hj (hmiss r hj)]
 exact key 61 0 (Nat.zero_le _) (by omega)
end Go.Proofs.YtggdlgclohnbaaaGreatDoor
namespace Go.Proofs.YtggdlgclohnbaaaGreatDoor
open Go Go.Sx
open Classical in theorem have_eq (b : TBox) (w : List TRecord) (hb : (b.Thread.length + b.Loose.length) * 48 ≤ 140737488355328) (hl : w.length ≤ 9223372036854775800) (hs : ∀ r ∈ w, r.Text.size ≤ 9223372036854775807) : m_depot_have b w = some (decide (Written w ∧ b.Thread ++ b.Loose = ofF w)) := by
  unfold m_depot_have
  rw [areWritten_eq w hl hs, Option.bind_some]
  by_cases h : Written w
  · have := h.len
    rw [if_pos (by simp [h]), dall_eq b hb, Option.bind_some, of_eq w (fun r hr => h.rec hr) (by omega), Option.bind_some, Equal_eq _ _ (by rw [List.length_append]; omega), Option.bind_some]
    simp [h]
  · rw [if_neg (by simp [h])]
    simp [h]
open Classical in theorem CheckBox_eq (b : TBox) (w : List TRecord) (hb : (b.Thread.length + b.Loose.length) * 48 ≤ 140737488355328) (hl : w.length ≤ 9223372036854775800) (hs : ∀ r ∈ w, r.Text.size ≤ 9223372036854775807) : m_depot_CheckBox b w = some (if Written w ∧ b.Thread ++ b.Loose = ofF w then 0 else 84) := by
  unfold m_depot_CheckBox
  rw [have_eq b w hb hl hs, Option.bind_some]
  by_cases h : Written w ∧ b.Thread ++ b.Loose = ofF w
  · rw [if_neg (by simp [h]), if_pos h]
  · rw [if_pos (by simp only [h]; decide), if_neg h]
end Go.Proofs.YtggdlgclohnbaaaGreatDoor
namespace Go.Proofs.YtggdlgclohnbaaaGreatDoor
open Go Go.Sx
theorem index_run (r:TRecord):∀(l:List TRecord) (s:Nat),(match runL (fun(s:Nat) (x:TRecord)=>if r=x then(.inr s:Sum Nat Nat)else .inl (s+1)) l s with| .inl _=>decide (r∈l)=false| .inr _=>decide (r∈l)=true)
 | [],s=>by simp [runL]
 |x::l,s=>by
  unfold runL
  by_cases h:r=x
  · rw [if_pos h];simp [h]
  · rw [if_neg h]
    have ih:=index_run r l (s+1)
    dsimp only
    generalize runL (fun(s:Nat) (x:TRecord)=>if r=x then(.inr s:Sum Nat Nat)else .inl (s+1)) l (s+1)=q at ih⊢
    cases q<;>simpa [h]using ih
theorem Contains_eq (l:List TRecord) (hl:l.length≤1000000) (r:TRecord):m_slices_Contains_api_Record_api_Record l r=some (decide (r∈l)):=by
 unfold m_slices_Contains_api_Record_api_Record m_slices_Index_api_Record_api_Record
 have key:=loop_list (body:=m_slices_Index_api_Record_api_Record_L1 l r) l (by omega) (fun k (_:Nat)=>(k:Int)) (fun(s:Nat) (x:TRecord)=>if r=x then(.inr s:Sum Nat Nat)else .inl (s+1)) (fun s=> .inr (s:Int)) (fun s=> .inl (s:Int)) (fun pre s=>s=pre.length)
  (fun pre x post s hp hs=>by
   subst hp hs
   unfold m_slices_Index_api_Record_api_Record_L1
   rw [if_pos (by simp only [decide_eq_true_eq];exact lt_pre),idx_pre,Option.bind_some,rec_beq,W_s (by simp at hl;omega)]
   by_cases hb:r=x
   · rw [if_pos (by simp [hb]),if_pos hb]
     exact⟨rfl,fun s' hs'=>by cases hs'⟩
   · rw [if_neg (by simp [hb]),if_neg hb]
     exact⟨rfl,fun s' hs'=>by cases hs';simp⟩)
  (fun s hs=>by subst hs;unfold m_slices_Index_api_Record_api_Record_L1;rw [if_neg (by simp)]) 0 rfl
 have k2:loopF (m_slices_Index_api_Record_api_Record_L1 l r) 0=_:=key
 rw [k2,Option.bind_some]
 have hr:=index_run r l 0
 generalize runL (fun(s:Nat) (x:TRecord)=>if r=x then(.inr s:Sum Nat Nat)else .inl (s+1)) l 0=q at hr⊢
 cases q with
 |inl _=>dsimp only at hr⊢;rw [hr];rfl
 |inr k=>
  dsimp only at hr⊢
  rw [hr,Option.bind_some]
  simp
theorem Write_val (b:TBox) (w:List TRecord) (x:TRecord) (hw:Written w) (hb:b.Thread++b.Loose=ofF w) (hx:RecOK x) (hn:NextOK w x):m_depot_Write b w x=some (⟨b.Thread,b.Loose++cardsF (encB x) (w.length:Int)⟩,w++ [x],0):=by
 have hwl:=hw.len
 have hol:(ofF w).length≤17*w.length:=ofK_len _ _ (fun r hr=>hw.rec hr)
 have hbl:b.Thread.length+b.Loose.length=(ofF w).length:=by rw [←hb,List.length_append]
 have hcl:(cardsF (encB x) (w.length:Int)).length≤17:=by rw [cardsF_len];exact parts_le (enc_size hx)
 have hts:∀r∈w,r.Text.size≤9223372036854775807:=fun r hr=>by have:=rec_text (hw.rec hr);omega
 have hnot:x∉w:=fun hm=>by
  have ho:=(hw.snoc hx hn).once
  unfold Once at ho
  rw [List.pairwise_append]at ho
  exact ho.2.2 x hm x (by simp) rfl
 unfold m_depot_Write m_depot_write m_depot_sorted m_depot_copied m_slices_Clone_api_Card_api_Card m_slices_Clone_api_Record_api_Record
 rw [have_eq b w (by omega) (by omega) hts,Option.bind_some,if_neg (by simp [hw,hb]),Contains_eq _ (by omega),Option.bind_some,if_neg (by simp [hnot]),gd_t (by omega),Option.bind_some,Add_val w x hw hx hn,Option.bind_some]
 dsimp only
 rw [if_neg (by decide),gd_t (by omega),gd_t (by omega)]
 simp only [Option.bind_some]
 rw [dcards_eq hx,Option.bind_some,gd_t (by omega),gd_t (by omega),Option.bind_some,gd_t (by simp only [List.length_cons,List.length_nil];omega),Option.bind_some]
end Go.Proofs.YtggdlgclohnbaaaGreatDoor
namespace Go.Proofs.YtggdlgclohnbaaaGreatDoor
open Go Go.Sx
theorem Written.take {l:List TRecord} (h:Written l) (n:Nat):Written (l.take n):=by
 intro i r hi
 rw [List.getElem?_take]at hi
 split at hi
 · rename_i hn
   have:=h i r hi
   rw [List.take_take,Nat.min_eq_left (by omega)]
   exact this
 · cases hi
structure Bx (b:TBox) (l:List TRecord) (n:Nat):Prop where
 w:Written l
 t:b.Thread=ofF (l.take n)
 a:b.Thread++b.Loose=ofF l
 f:n≤l.length
theorem fallF_whole (picks:List Int):∀(l:List TCard) (i:Nat) (out:List TCard),(∀c∈l,WholeP c)→∀c∈fallF picks i out l,WholeP c→c∈out∨c∈l
 | [],_,_,_,c,hc,_=> .inl hc
 |x::l,i,out,h,c,hc,hw=>by
  unfold fallF at hc
  rcases fallF_whole picks l (i+1) _ (fun c hc=>h c (List.mem_cons_of_mem _ hc)) c hc hw with h1|h1
  · have hx:=h x List.mem_cons_self
    unfold fallS at h1
    split at h1
    · exact .inl h1
    · split at h1
      · rcases List.mem_cons.1 h1 with h2|h2
        · exact .inr (h2▸List.mem_cons_self)
        · exact .inl h2
      · split at h1
        · rename_i h3
          rcases List.mem_append.1 h1 with h2|h2
          · exact .inl h2
          · exfalso
            have h2:=List.mem_singleton.1 h2
            subst h2
            have e1:=hw.2.2.2.2
            have e2:=hx.2.2.2.2
            dsimp only at e1
            rw [←e2,ByteArray.size_extract]at e1
            have e3:=Int.emod_lt_of_pos (pickF picks (2*i+1)) (b:=(x.Text.size:Int)) (by omega)
            have e4:=Int.emod_nonneg (pickF picks (2*i+1)) (b:=(x.Text.size:Int)) (by omega)
            omega
        · rcases List.mem_append.1 h1 with h2|h2
          · exact .inl h2
          · exact .inr (List.mem_singleton.1 h2▸List.mem_cons_self)
  · exact .inr (List.mem_cons_of_mem _ h1)
theorem least_bad (P:Nat→Prop):∀n:Nat,∃m,m≤n∧(∀j,j<m→P j)∧(m=n∨¬P m)
 |0=>⟨0,Nat.le_refl _,fun j h=>absurd h (Nat.not_lt_zero _), .inl rfl⟩
 |n+1=>by
  obtain⟨m,h1,h2,h3⟩:=least_bad P n
  rcases Classical.em (P n)with hp|hp
  · rcases h3 with h3|h3
    · subst h3
      refine⟨m+1,Nat.le_refl _,fun j hj=> ?_, .inl rfl⟩
      rcases Nat.lt_or_ge j m with h|h
      · exact h2 j h
      · have e:j=m:=by omega
        subst e
        exact hp
    · exact⟨m,by omega,h2, .inr h3⟩
  · rcases h3 with h3|h3
    · subst h3
      exact⟨m,by omega,h2, .inr hp⟩
    · exact⟨m,by omega,h2, .inr h3⟩
theorem ofF_whole {w:List TRecord} (h:Written w) {c:TCard} (hc:c∈ofF w):WholeP c:=by
 obtain⟨j,i,r,h1,h2,rfl⟩:=(mem_ofF w).1 hc
 have:=h.len
 have:=(List.getElem?_eq_some_iff.1 h1).1
 exact card_whole (h.rec (List.mem_of_getElem? h1)) (by omega) h2
namespace Bx
variable {b : TBox} {w : List TRecord} {f : Nat}
theorem len (h:Bx b w f):b.Thread.length+b.Loose.length≤1020:=by
 have h1:=ofK_len w 0 (fun r hr=>h.w.rec hr)
 have h2:=h.w.len
 have h3:(b.Thread++b.Loose).length=(ofK 0 w).length:=congrArg List.length h.a
 rw [List.length_append]at h3
 omega
theorem loose (h:Bx b w f) {c:TCard} (hc:c∈b.Loose):c∈ofF w:=by rw [←h.a];exact List.mem_append_right _ hc
theorem sz (h:Bx b w f):BoxSz b:=⟨by have:=h.len;omega,by have:=h.len;omega,fun c hc=>by
 have:=ofF_whole h.w (h.loose hc)
 have h1:=this.2.2.2.1
 have h2:=this.2.2.2.2
 omega⟩
theorem open_fall (h:Bx b w f) (picks:List Int):∃m,f≤m∧m≤w.length∧openF ((FallB b picks).Thread++(FallB b picks).Loose)=w.take m:=by
 have hall:∀c∈(FallB b picks).Thread++(FallB b picks).Loose,WholeP c→c∈ofF w:=by
  intro c hc hw
  rcases List.mem_append.1 hc with h1|h1
  · rw [←h.a];exact List.mem_append_left _ h1
  · rcases fallF_whole picks b.Loose 0 [] (fun c hc=>ofF_whole h.w (h.loose hc)) c h1 hw with h2|h2
    · cases h2
    · exact h.loose h2
 obtain⟨m,h1,h2,h3⟩:=least_bad (fun j=>∀r,w[j]?=some r→∀k,k<partsN (encB r).size→cardB (encB r) (j:Int) k∈(FallB b picks).Thread++(FallB b picks).Loose) w.length
 refine⟨m, ?_,h1,open_sub h.w hall m h1 (fun j r hj=>h2 j hj r) fun r hr=> ?_⟩
 · rcases Nat.lt_or_ge m f with hm|hm
   · exfalso
     have hf:=h.f
     rcases h3 with h3|h3
     · omega
     · refine h3 fun r hr k hk=>List.mem_append_left _ ?_
       show _∈b.Thread
       rw [h.t]
       refine(mem_ofF _).2 ⟨m,k,r, ?_,hk,rfl⟩
       rw [List.getElem?_take_of_lt hm];exact hr
   · exact hm
 · rcases h3 with h3|h3
   · subst h3;simp at hr
   · refine Classical.byContradiction fun hno=>h3 fun r' hr' k hk=>Classical.byContradiction fun hc=>hno ⟨k, ?_, ?_⟩
     · rw [hr]at hr';cases hr';exact hk
     · rw [hr]at hr';cases hr';exact hc
theorem fall_eq (h:Bx b w f) (picks:List Int) (hp:InR64 picks) (hpl:picks.length≤9223372036854775800):∃m,f≤m∧m≤w.length∧m_depot_Fall b picks=some (FallB b picks)∧m_depot_Open (FallB b picks)=some (⟨ofF (w.take m), []⟩,w.take m):=by
 obtain⟨m,h1,h2,h3⟩:=h.open_fall picks
 refine⟨m,h1,h2,dFall_eq b picks h.sz hp hpl, ?_⟩
 have hl:=fallF_len picks b.Loose 0 []
 have:=h.len
 simp only [List.length_nil]at hl
 rw [dOpen_eq _ (by show(b.Thread.length+(fallF picks 0 [] b.Loose).length)*48≤_;omega),h3]
theorem opened (h:Bx b w f) (m:Nat) (hm:m≤w.length):Bx ⟨ofF (w.take m), []⟩ (w.take m) m:=
 ⟨h.w.take m,by rw [List.take_take,Nat.min_self],by rw [List.append_nil],by rw [List.length_take];omega⟩
theorem bound (h:Bx b w f):Bx ⟨b.Thread++b.Loose, []⟩ w w.length:=⟨h.w,by rw [List.take_length];exact h.a,by rw [List.append_nil];exact h.a,Nat.le_refl _⟩
theorem bind_eq (h:Bx b w f):m_depot_Bind b=some ⟨b.Thread++b.Loose, []⟩:=by
 have:=h.len
 unfold m_depot_Bind
 rw [dall_eq b (by omega)];rfl
theorem more (h:Bx b w f) {x:TRecord} (hx:RecOK x) (hn:NextOK w x):Bx ⟨b.Thread,b.Loose++cardsF (encB x) (w.length:Int)⟩ (w++ [x]) f:=
 ⟨h.w.snoc hx hn,by rw [List.take_append_of_le_length h.f];exact h.t,by rw [←List.append_assoc,h.a,ofF_snoc],by have:=h.f;simp;omega⟩
theorem check (h:Bx b w f):m_depot_CheckBox b w=some 0:=by
 have:=h.len
 have hw:=h.w.len
 rw [CheckBox_eq b w (by omega) (by omega) (fun r hr=>by have:=rec_text (h.w.rec hr);omega),if_pos ⟨h.w,h.a⟩]
end Bx
theorem Bx.nil:Bx ⟨[], []⟩ [] 0:=⟨Written.nil,by simp [ofF,ofK],by simp [ofF,ofK],Nat.le_refl _⟩
end Go.Proofs.YtggdlgclohnbaaaGreatDoor
namespace Go.Proofs.YtggdlgclohnbaaaGreatDoor
open Go Go.Sx
def RS:TRecord:=⟨⟨2,0⟩,5,10,12,⟨0,0⟩,⟨#[97,32,108,97,109,112,32,111,110,32,116,104,101,32,113,117,97,121]⟩⟩
def TS:ByteArray:=⟨#[50,32,48,32,53,32,49,48,32,49,50,32,48,32,48,32,97,32,108,97,109,112,32,111,110,32,116,104,101,32,113,117,97,121]⟩
def T0:ByteArray:=⟨#[50,32,48,32,53,32,49,48,32,49,50,32,48,32,48,32,97,32,108,97,109,112,32,111]⟩
def T1:ByteArray:=⟨#[110,32,116,104,101,32,113,117,97,121]⟩
def C0 (no:Int):TCard:=⟨no,0,2,24,T0⟩
def C1 (no:Int):TCard:=⟨no,1,2,10,T1⟩
theorem RS_ok:RecOK RS:=by decide+kernel
theorem it_one (u:Nat) (h:u<10):Lib.itoa (u:Int)= [UInt8.ofNat (48+u)]:=by
 rw [Lib.itoa_nonneg,Lib.decDigits,dif_pos h]
theorem it_two (u:Nat) (h:10≤u∧u<100):Lib.itoa (u:Int)= [UInt8.ofNat (48+u / 10),UInt8.ofNat (48+u % 10)]:=by
 rw [Lib.itoa_nonneg,Lib.decDigits,dif_neg (by omega),Lib.decDigits,dif_pos (by omega)];rfl
theorem enc_RS:encB RS=TS:=by
 have h0:=it_one 0 (by omega)
 have h2:=it_one 2 (by omega)
 have h5:=it_one 5 (by omega)
 have h10:=it_two 10 (by omega)
 have h12:=it_two 12 (by omega)
 apply ByteArray.ext
 apply Array.ext'
 rw [encB_list]
 unfold encL recNs RS
 simp only [List.flatMap_cons,List.flatMap_nil]
 rw [show(2:Int)=((2:Nat):Int) from rfl,show(0:Int)=((0:Nat):Int) from rfl,show(5:Int)=((5:Nat):Int) from rfl,show(10:Int)=((10:Nat):Int) from rfl,show(12:Int)=((12:Nat):Int) from rfl,h0,h2,h5,h10,h12]
 decide+kernel
theorem cards_RS (no:Int):cardsF (encB RS) no= [C0 no,C1 no]:=by
 rw [enc_RS]
 have e0:pieceB TS 0=T0:=by decide+kernel
 have e1:pieceB TS 1=T1:=by decide+kernel
 have hz:TS.size=34:=by decide+kernel
 have s0:T0.size=24:=by decide+kernel
 have s1:T1.size=10:=by decide+kernel
 have hr:List.range (partsN 34)= [0,1]:=by decide+kernel
 unfold cardsF
 rw [hz,hr]
 simp only [List.map_cons,List.map_nil,cardB,e0,e1,hz,s0,s1,C0,C1]
 rfl
theorem sn_enc:m_depot_Encode RS=some (TS,0):=by
 unfold m_depot_Encode
 rw [isRecord_eq RS (by have:=rec_text RS_ok;omega),Option.bind_some,if_neg (by simp [RS_ok]),encode_eq RS_ok,enc_RS];rfl
theorem sn_cards:m_depot_Cards RS 3=some ([C0 3,C1 3],0):=by
 unfold m_depot_Cards
 rw [isRecord_eq RS (by have:=rec_text RS_ok;omega),Option.bind_some,if_neg (by simp [RS_ok]),within_eq,Option.bind_some,if_neg (by decide),dcards_eq RS_ok,cards_RS];rfl
theorem sortR_nil:sortR []= []:=List.eq_nil_of_length_eq_zero (sortR_len [])
theorem sn_have:m_depot_have ⟨[], []⟩ []=some true:=by
 unfold m_depot_have
 rw [areWritten_eq [] (by simp) (by simp),Option.bind_some,if_pos (by simp [Written.nil]),dall_eq _ (by simp),Option.bind_some,of_eq [] (by simp) (by simp),Option.bind_some]
 dsimp only
 rw [Equal_eq _ _ (by simp)]
 simp [ofF,ofK]
theorem sn_add:∃b,m_depot_Add ⟨[]⟩ RS=some (b,0):=by
 have hb:m_depot_isBook ⟨[]⟩=some true:=by
  have:loopF (m_depot_isBook_L1 ⟨[]⟩) (0,(-1),0)=some (.inl (0,-1,0)):=loop_fn (body:=m_depot_isBook_L1 ⟨[]⟩) (fun _=>((0:Int),(-1:Int),(0:Int))) 0 (by omega) _ (fun k hk=>by omega) (by unfold m_depot_isBook_L1;dsimp only;rw [if_neg (by simp)])
  unfold m_depot_isBook
  rw [this];rfl
 have hf:m_depot_find ⟨[]⟩ RS.At=some (0,false):=by decide+kernel
 unfold m_depot_Add
 rw [hb,Option.bind_some,if_neg (by decide),isRecord_eq RS (by have:=rec_text RS_ok;omega),Option.bind_some,if_neg (by simp [RS_ok]),hf,Option.bind_some]
 dsimp only
 rw [if_neg (by decide),has_eq [] (by simp) (by simp),Option.bind_some]
 have e:idx [(cntT []).1,(cntT []).2.1,(cntT []).2.2.1,(cntT []).2.2.2.1,(cntT []).2.2.2.2.1,(cntT []).2.2.2.2.2] RS.At.Depot=some 0:=by decide+kernel
 rw [e,Option.bind_some,if_neg (by decide),if_neg (by decide)]
 unfold m_slices_Clone_api_Record_api_Record
 rw [gd_t (by simp),Option.bind_some,gd_t (by simp)]
 unfold m_depot_sorted
 rw [gd_t (by simp)]
 exact⟨_,rfl⟩
theorem sn_write:m_depot_Write ⟨[], []⟩ [] RS=some (⟨[], [C0 0,C1 0]⟩, [RS],0):=by
 obtain⟨b,hb⟩:=sn_add
 have hc:m_slices_Contains_api_Record_api_Record [] RS=some false:=by decide+kernel
 unfold m_depot_Write m_depot_write
 rw [sn_have,Option.bind_some,if_neg (by decide),hc,Option.bind_some,if_neg (by decide)]
 unfold m_depot_sorted
 rw [gd_t (by simp),Option.bind_some,sortR_nil,hb,Option.bind_some]
 dsimp only
 rw [if_neg (by decide)]
 unfold m_depot_copied m_slices_Clone_api_Card_api_Card m_slices_Clone_api_Record_api_Record
 rw [gd_t (by simp),Option.bind_some,gd_t (by simp),Option.bind_some,Option.bind_some]
 dsimp only
 rw [show((([]:List TRecord).length:Nat):Int)=0 from rfl,dcards_eq RS_ok,cards_RS,Option.bind_some,gd_t (by simp),Option.bind_some,gd_t (by simp)]
 rfl
theorem sn_sz:BoxSz ⟨[], [C0 0,C1 0]⟩:=⟨by simp,by simp,fun c hc=>by
 simp only [List.mem_cons,List.not_mem_nil,or_false]at hc
 rcases hc with rfl|rfl
 · show T0.size≤_;decide+kernel
 · show T1.size≤_;decide+kernel⟩
theorem sn_in {l:List Int} (h:(l.all fun x=>decide (0≤x∧x≤100))=true):InR64 l:=fun x hx=>by
 have:=of_decide_eq_true (List.all_eq_true.1 h x hx);omega
theorem sn_f1:m_depot_Fall ⟨[], [C0 0,C1 0]⟩ [2,0]=some ⟨[], [C0 0,C1 0]⟩:=by
 rw [dFall_eq _ _ sn_sz (sn_in (by decide)) (by simp)];decide+kernel
theorem sn_f2:m_depot_Fall ⟨[], [C0 0,C1 0]⟩ [3,0]=some ⟨[], [C1 0,C0 0]⟩:=by
 rw [dFall_eq _ _ sn_sz (sn_in (by decide)) (by simp)];decide+kernel
theorem sn_f3:m_depot_Fall ⟨[], [C0 0,C1 0]⟩ [2,0,0,0]=some ⟨[], [C0 0]⟩:=by
 rw [dFall_eq _ _ sn_sz (sn_in (by decide)) (by simp)];decide+kernel
theorem sn_f4:m_depot_Fall ⟨[], [C0 0,C1 0]⟩ [2,0,1,9]=some ⟨[], [C0 0,⟨0,1,2,10,⟨#[110,32,116,104,101,32,113,117,97]⟩⟩]⟩:=by
 rw [dFall_eq _ _ sn_sz (sn_in (by decide)) (by simp)];decide+kernel
theorem sn_f5:m_depot_Fall ⟨[C0 0,C1 0], []⟩ [0,0]=some ⟨[C0 0,C1 0], []⟩:=by
 rw [dFall_eq _ _ ⟨by simp,by simp,by simp⟩ (sn_in (by decide)) (by simp)];decide+kernel
theorem open_one {l:List TCard} (h0:textF l 0=some TS) (h1:textF l 1=none):openF l= [RS]:=by
 have hd:decF TS=some RS:=by rw [←enc_RS];exact decF_enc RS_ok
 have hn:NextOK [] RS:=by decide+kernel
 unfold openF
 rw [show(61:Nat)=59+1+1 from rfl,openG]
 rw [show((([]:List TRecord).length:Nat):Int)=0 from rfl,h0]
 dsimp only
 rw [hd]
 dsimp only
 rw [if_pos hn,openG]
 rw [show((([]++ [RS]:List TRecord).length:Nat):Int)=1 from rfl,h1]
 rfl
theorem open_none {l:List TCard} (h0:textF l 0=none):openF l= []:=by
 unfold openF
 rw [show(61:Nat)=60+1 from rfl,openG]
 rw [show((([]:List TRecord).length:Nat):Int)=0 from rfl,h0]
theorem ofF_RS:ofF [RS]= [C0 0,C1 0]:=by
 unfold ofF ofK ofK
 rw [cards_RS];rfl
theorem sn_o1:m_depot_Open ⟨[], [C0 0,C1 0]⟩=some (⟨[C0 0,C1 0], []⟩, [RS]):=by
 rw [dOpen_eq _ (by simp),open_one (by decide+kernel) (by decide+kernel),ofF_RS]
theorem sn_o2:m_depot_Open ⟨[], [C1 0,C0 0]⟩=some (⟨[C0 0,C1 0], []⟩, [RS]):=by
 rw [dOpen_eq _ (by simp),open_one (by decide+kernel) (by decide+kernel),ofF_RS]
theorem sn_o3:m_depot_Open ⟨[], [C0 0]⟩=some (⟨[], []⟩, []):=by
 rw [dOpen_eq _ (by simp),open_none (by decide+kernel)];rfl
theorem sn_o4:m_depot_Open ⟨[], [C0 0,⟨0,1,2,10,⟨#[110,32,116,104,101,32,113,117,97]⟩⟩]⟩=some (⟨[], []⟩, []):=by
 rw [dOpen_eq _ (by simp),open_none (by decide+kernel)];rfl
theorem sn_o5:m_depot_Open ⟨[C0 0,C1 0], []⟩=some (⟨[C0 0,C1 0], []⟩, [RS]):=by
 rw [dOpen_eq _ (by simp),open_one (by decide+kernel) (by decide+kernel),ofF_RS]
theorem sn_bind:m_depot_Bind ⟨[], [C0 0,C1 0]⟩=some ⟨[C0 0,C1 0], []⟩:=by
 unfold m_depot_Bind
 rw [dall_eq _ (by simp)];rfl
theorem pl_sane:m_L08_sane=some true:=by
 unfold m_L08_sane
 rw [show(⟨(⟨2,0⟩:TItem),5,10,12,(⟨0,0⟩:TItem),(⟨#[97,32,108,97,109,112,32,111,110,32,116,104,101,32,113,117,97,121]⟩:ByteArray)⟩:TRecord)=RS from rfl]
 rw [sn_enc,Option.bind_some]
 dsimp only
 rw [sn_cards,Option.bind_some]
 dsimp only
 rw [sn_write,Option.bind_some]
 dsimp only
 rw [sn_f1,Option.bind_some,sn_o1,Option.bind_some]
 dsimp only
 rw [sn_f2,Option.bind_some,sn_o2,Option.bind_some]
 dsimp only
 rw [sn_f3,Option.bind_some,sn_o3,Option.bind_some]
 dsimp only
 rw [sn_f4,Option.bind_some,sn_o4,Option.bind_some]
 dsimp only
 rw [sn_bind,Option.bind_some,sn_f5,Option.bind_some,sn_o5,Option.bind_some]
 dsimp only
 rw [if_pos (by decide),if_pos (by decide),if_pos (by decide),if_pos (by decide),if_pos (by decide),if_pos (by decide),if_pos (by decide)]
 rw [show idx [C0 3,C1 3] 0=some (C0 3) from rfl,Option.bind_some,show idx [C0 3,C1 3] 1=some (C1 3) from rfl]
 rw [if_pos (by rw [txt_eq];decide+kernel),Option.bind_some,if_pos (by rw [txt_eq];decide+kernel),if_pos (by rw [txt_eq];decide+kernel)]
 rw [if_pos (by decide),if_pos (by decide),if_pos (by decide),if_pos (by decide),if_pos (by decide),if_pos (by decide)]
 rfl
end Go.Proofs.YtggdlgclohnbaaaGreatDoor
namespace Go.Proofs.YtggdlgclohnbaaaGreatDoor
open Go Go.RowKit Go.Sx
theorem Bx.write {v1 v2:List TCard} {w:List TRecord} {f:Nat} (h:Bx ⟨v1,v2⟩ w f) (hl:w.length≤20) (n:N5) (hn:N5OK n):∃x,m_R08_Next w n=some x∧m_depot_Write ⟨v1,v2⟩ w x=some (⟨v1,v2++cardsF (encB x) (w.length:Int)⟩,w++ [x],0)∧Bx ⟨v1,v2++cardsF (encB x) (w.length:Int)⟩ (w++ [x]) f:=by
 obtain⟨x,h1,h2,h3,_⟩:=next_ok w n (by omega) (fun r hr=>h.w.dep hr) hn
 exact⟨x,h1,Write_val ⟨v1,v2⟩ w x h.w h.a h2 h3,h.more h2 h3⟩
def FallI (l:List TDeed) (st:Int×List TCard×List TCard×List TRecord×Int):Prop:=∃k f:Nat,st.1=(k:Int)∧k≤13∧k≤l.length+1∧st.2.2.2.2=(f:Int)∧Bx ⟨st.2.1,st.2.2.1⟩ st.2.2.2.1 f∧st.2.2.2.1.length≤k
theorem PicksOK.i64 {l:List Int} (h:l.length*8≤reachBytes∧l.length≤maxLen∧∀y:Int,y∈l→InK .i64 y):InR64 l∧l.length≤9223372036854775800:=⟨fun x hx=>h.2.2 x hx,by
 have:reachBytes≤9223372036854775800:=by decide
 omega⟩
theorem fall_loop (l:List TDeed) (picks:List Int) (hl:l.length≤9223372036854775800) (h0:∀y∈l,TDeed.G y) (hp:InR64 picks) (hpl:picks.length≤9223372036854775800):∃e,loopF (m_L08_DepotFall_L1 l picks) (0, [], [], [],0)=some e∧∃st,e= .inl st:=by
 refine loop_rule (FallI l) (fun st=>14-st.1.toNat) _ ?_ _ ⟨0,0,rfl,by omega,by omega,rfl,Bx.nil,by simp⟩ (by unfold FUEL;omega)
 rintro⟨i,v1,v2,w,fm⟩ ⟨k,f,hi,hk13,hkl,hf,hb,hw⟩
 dsimp only at hi hf hb hw
 subst hi hf
 rcases Nat.lt_or_ge l.length k with hgt|hle
 · left
   refine⟨.inl ((k:Int),v1,v2,w,(f:Int)), ?_,_,rfl⟩
   unfold m_L08_DepotFall_L1
   dsimp only
   rw [if_neg (by simp only [decide_eq_true_eq];omega)]
 rcases Nat.lt_or_ge 12 k with hgt|hk12
 · left
   refine⟨.inl ((k:Int),v1,v2,w,(f:Int)), ?_,_,rfl⟩
   unfold m_L08_DepotFall_L1
   dsimp only
   rw [if_pos (by simp only [decide_eq_true_eq];omega),if_neg (by simp only [decide_eq_true_eq];omega)]
 right
 have hwl:=hb.w.len
 have h57:m_R08_Mod 5 7=some 5:=by decide+kernel
 unfold m_L08_DepotFall_L1
 dsimp only
 rw [if_pos (by simp only [decide_eq_true_eq];omega),if_pos (by simp only [decide_eq_true_eq];omega)]
 rcases Nat.lt_or_ge k l.length with hlt|hge
 · rcases Nat.lt_or_ge k 12 with h12|h12
   · rw [if_pos (by simp only [decide_eq_true_eq];omega),if_pos (by simp only [decide_eq_true_eq];omega),idx_n hlt,Option.bind_some]
     have hy:=h0 _ (List.getElem_mem hlt)
     obtain⟨hky,hny,hpy⟩:=hy
     obtain⟨p1,p2⟩:=PicksOK.i64 hpy
     rw [Mod_eq _ _ hky (by omega),Option.bind_some]
     by_cases h4:l[k].Kind % 7=4
     · rw [if_pos (by simpa using h4),hb.bind_eq,Option.bind_some]
       refine⟨_,rfl,⟨k+1,w.length,W_s (by omega),by omega,by omega,rfl,hb.bound,by dsimp only;omega⟩,by dsimp only;rw [W_s (by omega)];omega⟩
     · rw [if_neg (by simpa using h4)]
       by_cases h5:l[k].Kind % 7=5
       · obtain⟨m,m1,m2,m3,m4⟩:=hb.fall_eq _ p1 p2
         have hbo:=hb.opened m m2
         have hml:(w.take m).length=m:=by rw [List.length_take];omega
         rw [if_pos (by simpa using h5),m3,Option.bind_some,m4,Option.bind_some]
         dsimp only
         rw [hml,if_neg (by simp only [decide_eq_true_eq];omega),if_neg (by simp only [decide_eq_true_eq];omega),hbo.check,Option.bind_some,if_neg (by decide),if_neg (by simp),gd_t (by omega),Option.bind_some]
         have hsub:sub w 0 ((m:Int)).toNat=w.take m:=by unfold sub;rw [Int.toNat_natCast,List.drop_zero,Nat.sub_zero]
         rw [hsub,SameRecords_eq _ _ (by omega),Option.bind_some,if_neg (by simp),gd_t (by simp only [List.length_nil];omega)]
         exact⟨_,rfl,⟨k+1,m,W_s (by omega),by omega,by omega,rfl,hbo,by simp only [List.nil_append];omega⟩,by dsimp only;rw [W_s (by omega)];omega⟩
       · rw [if_neg (by simpa using h5)]
         by_cases h6:l[k].Kind % 7=6
         · obtain⟨m,m1,m2,m3,m4⟩:=hb.fall_eq _ p1 p2
           have hbo:=hb.opened m m2
           have hml:(w.take m).length=m:=by rw [List.length_take];omega
           rw [if_pos (by simpa using h6),m3,Option.bind_some,m4,Option.bind_some]
           dsimp only
           rw [hml,if_neg (by simp only [decide_eq_true_eq];omega),if_neg (by simp only [decide_eq_true_eq];omega),hbo.check,Option.bind_some,if_neg (by decide),if_neg (by simp),gd_t (by omega),Option.bind_some]
           have hsub:sub w 0 ((m:Int)).toNat=w.take m:=by unfold sub;rw [Int.toNat_natCast,List.drop_zero,Nat.sub_zero]
           rw [hsub,SameRecords_eq _ _ (by omega),Option.bind_some,if_neg (by simp),gd_t (by simp only [List.length_nil];omega)]
           exact⟨_,rfl,⟨k+1,m,W_s (by omega),by omega,by omega,rfl,hbo,by simp only [List.nil_append];omega⟩,by dsimp only;rw [W_s (by omega)];omega⟩
         · rw [if_neg (by simpa using h6)]
           obtain⟨x,x1,x2,x3⟩:=hb.write (by omega) l[k].Record hny
           rw [x1,Option.bind_some,x2,Option.bind_some]
           dsimp only
           rw [if_neg (by decide),if_neg (by rw [W_s (by omega)];simp),x3.check,Option.bind_some,if_neg (by decide)]
           exact⟨_,rfl,⟨k+1,f,W_s (by omega),by omega,by omega,rfl,x3,by simp;omega⟩,by dsimp only;rw [W_s (by omega)];omega⟩
   · rw [if_pos (by simp only [decide_eq_true_eq];omega),if_neg (by simp only [decide_eq_true_eq];omega),h57,Option.bind_some,if_neg (by decide),if_pos (by decide)]
     obtain⟨m,m1,m2,m3,m4⟩:=hb.fall_eq _ hp hpl
     have hbo:=hb.opened m m2
     have hml:(w.take m).length=m:=by rw [List.length_take];omega
     rw [m3,Option.bind_some,m4,Option.bind_some]
     dsimp only
     rw [hml,if_neg (by simp only [decide_eq_true_eq];omega),if_neg (by simp only [decide_eq_true_eq];omega),hbo.check,Option.bind_some,if_neg (by decide),if_neg (by simp),gd_t (by omega),Option.bind_some]
     have hsub:sub w 0 ((m:Int)).toNat=w.take m:=by unfold sub;rw [Int.toNat_natCast,List.drop_zero,Nat.sub_zero]
     rw [hsub,SameRecords_eq _ _ (by omega),Option.bind_some,if_neg (by simp),gd_t (by simp only [List.length_nil];omega)]
     exact⟨_,rfl,⟨k+1,m,W_s (by omega),by omega,by omega,rfl,hbo,by simp only [List.nil_append];omega⟩,by dsimp only;rw [W_s (by omega)];omega⟩
 · rw [if_neg (by simp only [decide_eq_true_eq];omega),h57,Option.bind_some,if_neg (by decide),if_pos (by decide)]
   obtain⟨m,m1,m2,m3,m4⟩:=hb.fall_eq _ hp hpl
   have hbo:=hb.opened m m2
   have hml:(w.take m).length=m:=by rw [List.length_take];omega
   rw [m3,Option.bind_some,m4,Option.bind_some]
   dsimp only
   rw [hml,if_neg (by simp only [decide_eq_true_eq];omega),if_neg (by simp only [decide_eq_true_eq];omega),hbo.check,Option.bind_some,if_neg (by decide),if_neg (by simp),gd_t (by omega),Option.bind_some]
   have hsub:sub w 0 ((m:Int)).toNat=w.take m:=by unfold sub;rw [Int.toNat_natCast,List.drop_zero,Nat.sub_zero]
   rw [hsub,SameRecords_eq _ _ (by omega),Option.bind_some,if_neg (by simp),gd_t (by simp only [List.length_nil];omega)]
   exact⟨_,rfl,⟨k+1,m,W_s (by omega),by omega,by omega,rfl,hbo,by simp only [List.nil_append];omega⟩,by dsimp only;rw [W_s (by omega)];omega⟩
theorem pl_DepotFall (x0:(List TDeed)) (x1:(List Int)) (h0:(x0.length*72≤reachBytes∧x0.length≤maxLen∧∀y:TDeed,y∈x0→TDeed.G y)) (h1:(x1.length*8≤reachBytes∧x1.length≤maxLen∧∀y:Int,y∈x1→InK .i64 y)):m_L08_DepotFall x0 x1=some true:=by
 have hl:x0.length≤9223372036854775800:=by
  have:reachBytes≤9223372036854775800:=by decide
  omega
 obtain⟨p1,p2⟩:=PicksOK.i64 h1
 obtain⟨e,h2,st,rfl⟩:=fall_loop x0 x1 hl h0.2.2 p1 p2
 unfold m_L08_DepotFall
 rw [pl_sane,Option.bind_some,h2,Option.bind_some]
end Go.Proofs.YtggdlgclohnbaaaGreatDoor
