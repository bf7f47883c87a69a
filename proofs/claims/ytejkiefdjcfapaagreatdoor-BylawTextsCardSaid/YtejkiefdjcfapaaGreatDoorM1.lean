/- What may be read at the types of the statement's parameters; plain facts. -/
import Derived.Test.YtejkiefdjcfapaaGreatDoorL2
set_option linter.unusedVariables false
set_option linter.unusedSimpArgs false
namespace Go.Proofs.YtejkiefdjcfapaaGreatDoor
open Go Go.RowKit Go.Sx
def TRange.G (x:TRange):Prop:=InK .i64 x.Lo∧InK .i64 x.Hi
theorem op_40:Opens Tryz.prog 40 TRange.c TRange.G:=
 (Opens.struct Tryz.underlying40 (OpensF.cons (s:=1) (Opens.int Tryz.underlying3) (OpensF.last (s:=1) (Opens.int Tryz.underlying3) rfl (by kernel_rfl) rfl) rfl (by kernel_rfl)) (by kernel_rfl)).iso (fun x=>(⟨x.1,x.2⟩:TRange)) (fun _=>rfl) (fun _ h=>h)
def TVersion.G (x:TVersion):Prop:=InK .i64 x.Source∧InK .i64 x.Class∧InK .i64 x.From∧TRange.G x.On∧TRange.G x.Off∧InK .i64 x.Moon∧InK .i64 x.Fog∧InK .i64 x.Known∧InK .i64 x.Until
theorem op_42:Opens Tryz.prog 42 TVersion.c TVersion.G:=
 (Opens.struct Tryz.underlying42 (OpensF.cons (s:=1) (Opens.int Tryz.underlying3) (OpensF.cons (s:=1) (Opens.int Tryz.underlying3) (OpensF.cons (s:=1) (Opens.int Tryz.underlying3) (OpensF.cons (s:=2) op_40 (OpensF.cons (s:=2) op_40 (OpensF.cons (s:=1) (Opens.int Tryz.underlying3) (OpensF.cons (s:=1) (Opens.int Tryz.underlying3) (OpensF.cons (s:=1) (Opens.int Tryz.underlying3) (OpensF.last (s:=1) (Opens.int Tryz.underlying3) rfl (by kernel_rfl) rfl) rfl (by kernel_rfl)) rfl (by kernel_rfl)) rfl (by kernel_rfl)) rfl (by kernel_rfl)) rfl (by kernel_rfl)) rfl (by kernel_rfl)) rfl (by kernel_rfl)) rfl (by kernel_rfl)) (by kernel_rfl)).iso (fun x=>(⟨x.1,x.2.1,x.2.2.1,x.2.2.2.1,x.2.2.2.2.1,x.2.2.2.2.2.1,x.2.2.2.2.2.2.1,x.2.2.2.2.2.2.2.1,x.2.2.2.2.2.2.2.2⟩:TVersion)) (fun _=>rfl) (fun _ h=>h)
theorem op_22:Opens Tryz.prog 22 (fun l:(List TVersion)=> [.lst 11 l.length (l.flatMap TVersion.c)]) (fun l=>(l.length*88≤reachBytes∧l.length≤maxLen∧∀y:TVersion,y∈l→TVersion.G y)):=
 Opens.slice Tryz.underlying22 op_42 (by kernel_rfl) (by kernel_rfl) (fun _=>rfl) (fun _=>rfl) (by decide)
def TStreet.G (x:TStreet):Prop:=InK .i64 x.Id∧InK .i64 x.Class∧InK .i64 x.District∧InK .i64 x.First∧InK .i64 x.Many
theorem op_49:Opens Tryz.prog 49 TStreet.c TStreet.G:=
 (Opens.struct Tryz.underlying49 (OpensF.cons (s:=1) (Opens.int Tryz.underlying3) (OpensF.cons (s:=1) (Opens.int Tryz.underlying3) (OpensF.cons (s:=1) (Opens.int Tryz.underlying3) (OpensF.cons (s:=1) (Opens.int Tryz.underlying3) (OpensF.last (s:=1) (Opens.int Tryz.underlying3) rfl (by kernel_rfl) rfl) rfl (by kernel_rfl)) rfl (by kernel_rfl)) rfl (by kernel_rfl)) rfl (by kernel_rfl)) (by kernel_rfl)).iso (fun x=>(⟨x.1,x.2.1,x.2.2.1,x.2.2.2.1,x.2.2.2.2⟩:TStreet)) (fun _=>rfl) (fun _ h=>h)
theorem op_23:Opens Tryz.prog 23 (fun l:(List TStreet)=> [.lst 5 l.length (l.flatMap TStreet.c)]) (fun l=>(l.length*40≤reachBytes∧l.length≤maxLen∧∀y:TStreet,y∈l→TStreet.G y)):=
 Opens.slice Tryz.underlying23 op_49 (by kernel_rfl) (by kernel_rfl) (fun _=>rfl) (fun _=>rfl) (by decide)
def TBylaw.G (x:TBylaw):Prop:=(x.Versions.length*88≤reachBytes∧x.Versions.length≤maxLen∧∀y:TVersion,y∈x.Versions→TVersion.G y)∧(x.Streets.length*40≤reachBytes∧x.Streets.length≤maxLen∧∀y:TStreet,y∈x.Streets→TStreet.G y)
theorem op_25:Opens Tryz.prog 25 TBylaw.c TBylaw.G:=
 (Opens.struct Tryz.underlying25 (OpensF.cons (s:=1) op_22 (OpensF.last (s:=1) op_23 rfl (by kernel_rfl) rfl) rfl (by kernel_rfl)) (by kernel_rfl)).iso (fun x=>(⟨x.1,x.2⟩:TBylaw)) (fun _=>rfl) (fun _ h=>h)
end Go.Proofs.YtejkiefdjcfapaaGreatDoor
namespace Go.Proofs.YtejkiefdjcfapaaGreatDoor
open Go Go.Sx
open Classical
theorem in_eq (n lo hi:Int):m_bylaw_in n lo hi=some (decide (lo≤n∧n≤hi)):=by
 unfold m_bylaw_in;by_cases h:lo≤n<;>simp [h]
theorem Within_eq (n lo hi:Int):m_R01_Within n lo hi=some (decide (lo≤n∧n≤hi)):=in_eq n lo hi
theorem isNight_eq (n:Int):m_bylaw_isNight n=some (decide (0≤n∧n≤100000)):=by unfold m_bylaw_isNight;rw [in_eq];rfl
theorem IsNight_eq (n:Int):m_R01_IsNight n=some (decide (0≤n∧n≤100000)):=by unfold m_R01_IsNight;rw [Within_eq];rfl
theorem isRange_eq (r:TRange) (hi:Int):m_bylaw_isRange r hi=some (decide (0≤r.Lo∧r.Lo≤r.Hi∧r.Hi≤hi)):=by
 unfold m_bylaw_isRange;by_cases h:0≤r.Lo<;>by_cases h1:r.Lo≤r.Hi<;>simp [h,h1]
theorem IsRange_eq (r:TRange) (lo hi:Int):m_R01_IsRange r lo hi=some (decide (lo≤r.Lo∧r.Lo≤r.Hi∧r.Hi≤hi)):=by
 unfold m_R01_IsRange;by_cases h:lo≤r.Lo<;>by_cases h1:r.Lo≤r.Hi<;>simp [h,h1]
theorem ite_not {α:Type} {p:Prop} [Decidable p] {a b:α}:(if(!decide p)=true then a else b)=if p then b else a:=by by_cases h:p<;>simp [h]
theorem ite_and {α:Type} {p q:Prop} [Decidable p] [Decidable q] {a b:α}:(if p then(if q then a else b)else b)=if p∧q then a else b:=by by_cases h:p<;>by_cases k:q<;>simp [h,k]
theorem ite_gt {α:Type} {x y:Int} {a b:α}:(if decide (x>y)=true then a else b)=if x≤y then b else a:=by by_cases h:x≤y<;>simp [h]<;>omega
def VVersion (v:TVersion):Prop:=(1≤v.Source∧v.Source≤99999)∧(1≤v.Class∧v.Class≤9)∧(0≤v.From∧v.From≤100000)∧(0≤v.On.Lo∧v.On.Lo≤v.On.Hi∧v.On.Hi≤600)∧(0≤v.Off.Lo∧v.Off.Lo≤v.Off.Hi∧v.Off.Hi≤600)∧
 (0≤v.Moon∧v.Moon≤1001)∧(0≤v.Fog∧v.Fog≤600)∧(0≤v.Known∧v.Known≤100000)∧(v.Until=0∨(v.Known<v.Until∧v.Until≤100000))
instance (v : TVersion) : Decidable (VVersion v) := by unfold VVersion; exact inferInstance
theorem CheckVersion_eq (v:TVersion):m_bylaw_CheckVersion v=some (if VVersion v then 0 else 10):=by
 unfold m_bylaw_CheckVersion;simp only [isNight_eq,isRange_eq,in_eq,Option.bind_some,ite_not];by_cases hk:0≤v.Known∧v.Known≤100000
 · rw [W_id (by omega)]
   have e:∀ {a b:Option Int},(if(v.Until !=0)=true then(if v.Known+1≤v.Until∧v.Until≤100000 then a else b)else a)=if(v.Until=0∨(v.Known<v.Until∧v.Until≤100000))then a else b:=by
    intro a b;by_cases h:v.Until=0
    · simp [h]
    · simp only [bne_iff_ne,ne_eq,h,not_false_eq_true,if_true,false_or,Int.add_one_le_iff]
   simp only [e,ite_and];by_cases hv:VVersion v
   · rw [if_pos hv];exact if_pos hv
   · rw [if_neg hv];exact if_neg hv
 · have:¬VVersion v:=fun h=>hk h.2.2.2.2.2.2.2.1
   simp only [hk,this,if_false,ite_self]
theorem Lasts_eq (k u:Int):m_R01_Lasts k u=some (decide ((0≤k∧k≤100000)∧(u=0∨(k<u∧u≤100000)))):=by
 unfold m_R01_Lasts;simp only [IsNight_eq,Option.bind_some];by_cases hk:0≤k∧k≤100000
 · by_cases hu:u=0
   · simp [hk,hu]
   · by_cases hl:k<u
     · have:0≤u:=by omega
       simp [hk,hu,hl,this]
     · simp [hk,hu,hl]
 · simp only [hk,false_and,decide_false,Bool.false_eq_true,if_false]
theorem rCheckVersion_eq (v:TVersion):m_R01_CheckVersion v=some (if VVersion v then 0 else 10):=by
 unfold m_R01_CheckVersion;simp only [IsNight_eq,IsRange_eq,Within_eq,Lasts_eq,Option.bind_some,ite_not,ite_and];by_cases hv:VVersion v
 · rw [if_pos hv];exact if_pos hv
 · rw [if_neg hv];exact if_neg hv
def VStreet (s:TStreet):Prop:=(1≤s.Id∧s.Id≤99)∧(1≤s.Class∧s.Class≤9)∧(1≤s.District∧s.District≤9)∧(1≤s.First∧s.First≤999)∧(1≤s.Many∧s.Many≤200)∧s.First+s.Many-1≤999
instance (s : TStreet) : Decidable (VStreet s) := by unfold VStreet; exact inferInstance
theorem CheckStreet_eq (s:TStreet):m_bylaw_CheckStreet s=some (if VStreet s then 0 else 11):=by
 unfold m_bylaw_CheckStreet;simp only [in_eq,Option.bind_some,ite_not];by_cases h:(1≤s.First∧s.First≤999)∧(1≤s.Many∧s.Many≤200)
 · rw [W_id (z:=s.First+s.Many) (by omega),W_id (by omega)];simp only [ite_gt,ite_and];by_cases hv:VStreet s
   · rw [if_pos hv];exact if_pos hv
   · rw [if_neg hv];exact if_neg hv
 · have:¬VStreet s:=fun k=>h ⟨k.2.2.2.1,k.2.2.2.2.1⟩
   simp only [this,if_false];by_cases h1:1≤s.First∧s.First≤999
   · have h2:¬(1≤s.Many∧s.Many≤200):=fun k=>h ⟨h1,k⟩
     simp only [h1,h2,if_false,ite_self]
   · simp only [h1,if_false,ite_self]
theorem rCheckStreet_eq (s:TStreet):m_R01_CheckStreet s=some (if VStreet s then 0 else 11):=by
 rw [←CheckStreet_eq];rfl
def hasB (s:TStreet) (lamp:Int):Bool:=decide (s.First≤lamp∧lamp≤W (W (s.First+s.Many)-1))
theorem has_eq (s:TStreet) (lamp:Int):m_bylaw_has s lamp=some (hasB s lamp):=by unfold m_bylaw_has;rw [in_eq];rfl
theorem VStreet.has {s:TStreet} (h:VStreet s) (lamp:Int):hasB s lamp=decide (s.First≤lamp∧lamp<s.First+s.Many):=by
 obtain⟨_,_,_,h1,h2,h3⟩:=h;unfold hasB;rw [W_id (z:=s.First+s.Many) (by omega),W_id (by omega)];congr 2;exact propext ⟨fun h=>by omega,fun h=>by omega⟩
noncomputable def stepIf {α σ R:Type} (ok:σ→α→Prop) (nx:σ→α→σ) (c:R) (s:σ) (x:α):Sum σ R:=if ok s x then .inl (nx s x)else .inr c
theorem stepIf_pos {α σ R:Type} {ok:σ→α→Prop} {nx:σ→α→σ} {c:R} {s:σ} {x:α} (h:ok s x):stepIf ok nx c s x= .inl (nx s x):=if_pos h
theorem stepIf_neg {α σ R:Type} {ok:σ→α→Prop} {nx:σ→α→σ} {c:R} {s:σ} {x:α} (h:¬ok s x):stepIf ok nx c s x= .inr c:=if_neg h
theorem runL_if {α σ R:Type} (ok:σ→α→Prop) (nx:σ→α→σ) (c:R) (l:List α) (s:σ) (Q:List α→σ→Prop) (h0:∀s,Q [] s) (h:∀x l s,Q (x::l) s↔ok s x∧Q l (nx s x)):
 runL (stepIf ok nx c) l s=if Q l s then .inl (l.foldl nx s)else .inr c:=by
 induction l generalizing s with
 |nil=>rw [if_pos (h0 s)];rfl
 |cons x l ih=>
  simp only [runL];by_cases hk:ok s x
  · rw [stepIf_pos hk];simp only;rw [ih];by_cases hq:Q l (nx s x)
    · rw [if_pos hq,if_pos ((h x l s).2 ⟨hk,hq⟩)];rfl
    · rw [if_neg hq,if_neg (fun hh=>hq ((h x l s).1 hh).2)]
  · rw [stepIf_neg hk,if_neg (fun hh=>hk ((h x l s).1 hh).1)]
def chain {α:Type} (V:α→Prop) (num:α→Int):List α→Option Int→Prop
 | [],_=>True
 |x::l,p=>(V x∧∀q,p=some q→q<num x)∧chain V num l (some (num x))
theorem chain_iff {α:Type} (V:α→Prop) (num:α→Int) (l:List α) (p:Option Int):chain V num l p↔(∀x,x∈l→V x)∧l.Pairwise (fun a b=>num a<num b)∧∀q,p=some q→∀x,x∈l→q<num x:=by
 induction l generalizing p with
 |nil=>simp [chain]
 |cons x l ih=>
  simp only [chain,ih,List.mem_cons,List.pairwise_cons,forall_eq_or_imp,Option.some.injEq,forall_eq'];constructor
  · rintro⟨⟨h1,h2⟩,h3,h4,h5⟩;exact⟨⟨h1,h3⟩,⟨h5,h4⟩,fun q hq=>⟨h2 q hq,fun y hy=>by have:=h2 q hq;have:=h5 y hy;omega⟩⟩
  · rintro⟨⟨h1,h3⟩,⟨h5,h4⟩,h2⟩;exact⟨⟨h1,fun q hq=>(h2 q hq).1⟩,h3,h4,h5⟩
def numOf {α:Type} (num:α→Int):List α→Option Int:=fun pre=>pre.getLast?.map num
theorem chain_loop {α E:Type} {body:Int→Option (Sum Int E)} {V:α→Prop} {num:α→Int} {l:List α} (hl:l.length≤9223372036854775807) (c:E) (fin:E)
 (h:∀pre x post,l=pre++x::post→body (pre.length:Int)=some (if V x∧∀q,numOf num pre=some q→q<num x then .inl ((pre.length+1:Nat):Int)else .inr c))
 (he:body (l.length:Int)=some (.inr fin)):loopF body 0=some (if(∀x,x∈l→V x)∧l.Pairwise (fun a b=>num a<num b)then fin else c):=by
 have hr:=loop_list (body:=body) (R:=E) l hl (fun k (_:Option Int)=>(k:Int)) (stepIf (fun s x=>V x∧∀q,s=some q→q<num x) (fun _ x=>some (num x)) c) id (fun _=>fin) (fun pre s=>s=numOf num pre)
  (fun pre x post s hp hs=>by
   subst hs;rw [h pre x post hp];by_cases hk:V x∧∀q,numOf num pre=some q→q<num x
   · have e:=stepIf_pos (ok:=fun s x=>V x∧∀q,s=some q→q<num x) (nx:=fun _ x=>some (num x)) (c:=c) hk;rw [if_pos hk,e];exact⟨rfl,fun s' hs'=>by cases hs';simp [numOf]⟩
   · have e:=stepIf_neg (ok:=fun s x=>V x∧∀q,s=some q→q<num x) (nx:=fun _ x=>some (num x)) (c:=c) hk;rw [if_neg hk,e];exact⟨rfl,fun s' hs'=>by cases hs'⟩) (fun s _=>he) none rfl
 have h0:((0:Nat):Int)=0:=rfl;rw [h0]at hr;rw [hr,runL_if (fun s x=>V x∧∀q,s=some q→q<num x) (fun _ x=>some (num x)) c l none (fun l s=>chain V num l s) (fun _=>trivial) (fun _ _ _=>Iff.rfl)];have hc:=chain_iff V num l none;by_cases hq:chain V num l none
 · rw [if_pos hq,if_pos ⟨(hc.1 hq).1,(hc.1 hq).2.1⟩]
 · rw [if_neg hq,if_neg (fun hh=>hq (hc.2 ⟨hh.1,hh.2,by simp⟩))];rfl
theorem ahead {α:Type} {num:α→Int} {pre post:List α} {x:α} (hl:(pre++x::post).length≤9223372036854775807):
 (pre= []∧numOf num pre=none∧decide ((pre.length:Int)>0)=false)∨∃y,decide ((pre.length:Int)>0)=true∧idx (pre++x::post) (W ((pre.length:Int)-1))=some y∧numOf num pre=some (num y):=by
 rcases List.eq_nil_or_concat pre with rfl|⟨r,y,rfl⟩
 · left;exact⟨rfl,rfl,by simp⟩
 · right;simp at hl;refine⟨y,by simp, ?_,by simp [numOf]⟩
   have:W (((r.concat y).length:Int)-1)=(r.length:Int):=by
    rw [W_id (by simp;omega)];simp
   rw [this];unfold idx;simp
theorem gd_pos {α:Type} {p:Prop} [Decidable p] {k:Option α} (h:p):gd p k=k:=by unfold gd;rw [if_pos h]
theorem Wsucc {α:Type} {pre post:List α} {x:α} (hl:(pre++x::post).length≤9223372036854775807):W ((pre.length:Int)+1)=((pre.length+1:Nat):Int):=W_s (by simp at hl;omega)
theorem areVersions_eq (l:List TVersion) (most:Int) (hl:l.length≤9223372036854775807):m_bylaw_areAll_api_Version__bylaw_CheckVersion__bylaw_sourceOf l most=some (decide (((∀x,x∈l→VVersion x)∧l.Pairwise (fun a b=>a.Source<b.Source))∧(l.length:Int)≤most)):=by
 unfold m_bylaw_areAll_api_Version__bylaw_CheckVersion__bylaw_sourceOf;rw [chain_loop (V:=VVersion) (num:=TVersion.Source) (l:=l) hl (.inr false) (.inl (l.length:Int)) ?_ ?_]
 · by_cases h:(∀x,x∈l→VVersion x)∧l.Pairwise (fun a b=>a.Source<b.Source)
   · rw [if_pos h];simp only [Option.bind_some];congr 1;exact decide_eq_decide.2 ⟨fun k=>⟨h,k⟩,fun k=>k.2⟩
   · rw [if_neg h];simp only [Option.bind_some];congr 1;exact(decide_eq_false fun k=>h k.1).symm
 · rintro pre x post rfl;unfold m_bylaw_areAll_api_Version__bylaw_CheckVersion__bylaw_sourceOf_L1;simp only [lt_pre,decide_true,if_true,idx_pre,Option.bind_some,CheckVersion_eq,m_bylaw_sourceOf];by_cases hv:VVersion x
   · rcases ahead (num:=TVersion.Source) hl with⟨h1,h2,h3⟩|⟨y,h1,h2,h3⟩
     · simp only [hv,if_true,h2,h3,Wsucc hl,bne_self_eq_false,Bool.false_eq_true,if_false];simp
     · simp only [hv,if_true,h1,h2,h3,Option.bind_some,Wsucc hl,true_and,Option.some.injEq,forall_eq'];by_cases hq:y.Source<x.Source
       · have:¬y.Source≥x.Source:=by omega
         simp [hq,this]
       · have:y.Source≥x.Source:=by omega
         simp [hq,this]
   · simp [hv]
 · unfold m_bylaw_areAll_api_Version__bylaw_CheckVersion__bylaw_sourceOf_L1;simp
theorem areStreets_eq (l:List TStreet) (most:Int) (hl:l.length≤9223372036854775807):m_bylaw_areAll_api_Street__bylaw_CheckStreet__bylaw_idOf l most=some (decide (((∀x,x∈l→VStreet x)∧l.Pairwise (fun a b=>a.Id<b.Id))∧(l.length:Int)≤most)):=by
 unfold m_bylaw_areAll_api_Street__bylaw_CheckStreet__bylaw_idOf;rw [chain_loop (V:=VStreet) (num:=TStreet.Id) (l:=l) hl (.inr false) (.inl (l.length:Int)) ?_ ?_]
 · by_cases h:(∀x,x∈l→VStreet x)∧l.Pairwise (fun a b=>a.Id<b.Id)
   · rw [if_pos h];simp only [Option.bind_some];congr 1;exact decide_eq_decide.2 ⟨fun k=>⟨h,k⟩,fun k=>k.2⟩
   · rw [if_neg h];simp only [Option.bind_some];congr 1;exact(decide_eq_false fun k=>h k.1).symm
 · rintro pre x post rfl;unfold m_bylaw_areAll_api_Street__bylaw_CheckStreet__bylaw_idOf_L1;simp only [lt_pre,decide_true,if_true,idx_pre,Option.bind_some,CheckStreet_eq,m_bylaw_idOf];by_cases hv:VStreet x
   · rcases ahead (num:=TStreet.Id) hl with⟨h1,h2,h3⟩|⟨y,h1,h2,h3⟩
     · simp only [hv,if_true,h2,h3,Wsucc hl,bne_self_eq_false,Bool.false_eq_true,if_false];simp
     · simp only [hv,if_true,h1,h2,h3,Option.bind_some,Wsucc hl,true_and,Option.some.injEq,forall_eq'];by_cases hq:y.Id<x.Id
       · have:¬y.Id≥x.Id:=by omega
         simp [hq,this]
       · have:y.Id≥x.Id:=by omega
         simp [hq,this]
   · simp [hv]
 · unfold m_bylaw_areAll_api_Street__bylaw_CheckStreet__bylaw_idOf_L1;simp
theorem all_loop {α E:Type} {body:Int→Option (Sum Int E)} {V:α→Prop} {l:List α} (hl:l.length≤9223372036854775807) (c:E) (fin:E)
 (h:∀pre x post,l=pre++x::post→(∀y,y∈pre→V y)→body (pre.length:Int)=some (if V x then .inl ((pre.length+1:Nat):Int)else .inr c))
 (he:body (l.length:Int)=some (.inr fin)):loopF body 0=some (if∀x,x∈l→V x then fin else c):=by
 have hr:=loop_list (body:=body) (R:=E) l hl (fun k (_:Unit)=>(k:Int)) (stepIf (fun _ x=>V x) (fun s _=>s) c) id (fun _=>fin) (fun pre _=>∀y,y∈pre→V y)
  (fun pre x post s hp hpre=>by
   rw [h pre x post hp hpre];by_cases hk:V x
   · have e:=stepIf_pos (ok:=fun _ x=>V x) (nx:=fun s _=>s) (c:=c) (s:=s) hk;rw [if_pos hk,e];refine⟨rfl,fun s' _ y hy=> ?_⟩;rcases List.mem_append.1 hy with h|h
     · exact hpre y h
     · simp at h;subst h;exact hk
   · have e:=stepIf_neg (ok:=fun _ x=>V x) (nx:=fun s _=>s) (c:=c) (s:=s) hk;rw [if_neg hk,e];exact⟨rfl,fun s' hs'=>by cases hs'⟩) (fun s _=>he) () (by simp)
 have h0:((0:Nat):Int)=0:=rfl;rw [h0]at hr;rw [hr,runL_if (fun _ x=>V x) (fun s _=>s) c l () (fun l _=>∀x,x∈l→V x) (by simp) (by simp)];by_cases hq:∀x,x∈l→V x
 · rw [if_pos hq,if_pos hq]
 · rw [if_neg hq,if_neg hq];rfl
def meets (s t:TStreet):Prop:=t.First<s.First+s.Many∧s.First<t.First+t.Many
structure VBylaw (b:TBylaw):Prop where
 vers:∀v,v∈b.Versions→VVersion v
 vsort:b.Versions.Pairwise (fun a c=>a.Source<c.Source)
 vlen:b.Versions.length≤60
 sts:∀s,s∈b.Streets→VStreet s
 ssort:b.Streets.Pairwise (fun a c=>a.Id<c.Id)
 slen:b.Streets.length≤20
 apart:b.Streets.Pairwise (fun s t=>¬meets s t)
theorem pair_cases {α:Type} {R:α→α→Prop} (l:List α):l.Pairwise R↔∀pre x post,l=pre++x::post→∀y,y∈pre→R y x:=by
 constructor
 · rintro h pre x post rfl y hy;exact(List.pairwise_append.1 h).2.2 y hy x (List.mem_cons_self ..)
 · intro h;rw [List.pairwise_iff_getElem];intro i j hi hj hij;exact h (l.take j) l[j] (l.drop (j+1)) (by rw [←List.drop_eq_getElem_cons hj,List.take_append_drop]) _ (List.mem_take_iff_getElem.2 ⟨i,by omega,rfl⟩)
theorem Check_L4_eq (x:TStreet) (l:List TStreet) (hl:l.length≤9223372036854775807) (hx:VStreet x) (hv:∀y,y∈l→VStreet y):loopF (m_bylaw_Check_L4 x l) 0=some (if∀y,y∈l→¬meets y x then .inl (l.length:Int)else .inr 13):=by
 refine Eq.trans (all_loop (V:=fun y=>¬meets y x) hl (.inr 13) (.inl (l.length:Int)) ?_ ?_) (by congr)
 · rintro pre y post rfl _;unfold m_bylaw_Check_L4;have hy:=hv y (by simp);simp only [lt_pre,decide_true,if_true,idx_pre,Option.bind_some,has_eq,hx.has,hy.has,Wsucc hl];have hxm:=hx.2.2.2.2.1;have hym:=hy.2.2.2.2.1;unfold meets;by_cases h1:x.First≤y.First∧y.First<x.First+x.Many
   · have:(x.First<y.First+y.Many∧y.First<x.First+x.Many):=by omega
     simp [h1,this]
   · by_cases h2:y.First≤x.First∧x.First<y.First+y.Many
     · have:(x.First<y.First+y.Many∧y.First<x.First+x.Many):=by omega
       simp [h1,h2,this]
     · have:¬(x.First<y.First+y.Many∧y.First<x.First+x.Many):=by omega
       simp only [h1,h2,this,decide_false,Bool.false_eq_true,if_false,not_false_eq_true,if_true]
 · unfold m_bylaw_Check_L4;simp
theorem Check_eq (b:TBylaw) (h1:b.Versions.length≤9223372036854775807) (h2:b.Streets.length≤9223372036854775807):m_bylaw_Check b=some (if VBylaw b then 0 else 13):=by
 unfold m_bylaw_Check;rw [areVersions_eq _ _ h1,areStreets_eq _ _ h2];simp only [Option.bind_some,ite_not];by_cases ha:((∀x,x∈b.Versions→VVersion x)∧b.Versions.Pairwise (fun a b=>a.Source<b.Source))∧(b.Versions.length:Int)≤60
 · by_cases hb:((∀x,x∈b.Streets→VStreet x)∧b.Streets.Pairwise (fun a b=>a.Id<b.Id))∧(b.Streets.length:Int)≤20
   · rw [if_pos ha,if_pos hb]
     have hloop:loopF (m_bylaw_Check_L3 b) 0=some (if b.Streets.Pairwise (fun s t=>¬meets s t)then .inl (b.Streets.length:Int)else .inr 13):=by
      have hr:=loop_list (body:=m_bylaw_Check_L3 b) (R:=Unit) b.Streets h2 (fun k (_:Unit)=>(k:Int)) (stepIf (fun _ x=>∀pre post,b.Streets=pre++x::post→∀y,y∈pre→¬meets y x) (fun s _=>s) ()) (fun _=> .inr 13) (fun _=> .inl (b.Streets.length:Int)) (fun _ _=>True)
       (fun pre x post s hp _=>by
        refine⟨?_,fun _ _=>trivial⟩;have hnd:b.Streets.Pairwise (fun a b=>a≠b):=hb.1.2.imp fun h e=>by subst e;omega
        have hu:∀pre' post',b.Streets=pre'++x::post'→pre'=pre:=by
         intro pre' post' hp';have hd:(pre++x::post).Nodup:=by rw [←hp];exact hnd
         rw [hp]at hp'
         have hlen:pre'.length=pre.length:=by
          have hx1:(pre++x::post)[pre.length]?=some x:=by simp
          have hx2:(pre++x::post)[pre'.length]?=some x:=by rw [hp'];simp
          have hlt1:pre.length<(pre++x::post).length:=by simp
          exact((List.getElem?_inj hlt1 hd).1 (by rw [hx1,hx2])).symm
         exact(List.append_inj hp'.symm (by omega)).1
        have hcond:(∀pre' post',b.Streets=pre'++x::post'→∀y,y∈pre'→¬meets y x)↔∀y,y∈pre→¬meets y x:=⟨fun h=>h pre post hp,fun h pre' post' hp'=>by rw [hu pre' post' hp'];exact h⟩;have hsub:sub b.Streets 0 ((pre.length:Int)).toNat=pre:=by rw [hp];simp [sub]
        unfold m_bylaw_Check_L3;have hidx:idx b.Streets (pre.length:Int)=some x:=by rw [hp];exact idx_pre
        have hlt:(pre.length:Int)<(b.Streets.length:Int):=by rw [hp];exact lt_pre
        have hg:0≤(pre.length:Int)∧(pre.length:Int)≤(b.Streets.length:Int):=by omega
        simp only [hlt,decide_true,if_true,hidx,Option.bind_some,gd_pos hg,hsub];rw [Check_L4_eq x pre (by omega) (hb.1.1 x (by rw [hp];simp)) (fun y hy=>hb.1.1 y (by rw [hp];simp [hy]))];have hw:W ((pre.length:Int)+1)=((pre.length+1:Nat):Int):=W_s (by omega);by_cases hk:∀y,y∈pre→¬meets y x
        · have e:=stepIf_pos (ok:=fun _ x=>∀pre post,b.Streets=pre++x::post→∀y,y∈pre→¬meets y x) (nx:=fun s _=>s) (c:=()) (s:=s) (hcond.2 hk);rw [if_pos hk,e];simp [hw]
        · have e:=stepIf_neg (ok:=fun _ x=>∀pre post,b.Streets=pre++x::post→∀y,y∈pre→¬meets y x) (nx:=fun s _=>s) (c:=()) (s:=s) (fun h=>hk (hcond.1 h));rw [if_neg hk,e];rfl) (fun s _=>by unfold m_bylaw_Check_L3;simp) () trivial
      have h0:((0:Nat):Int)=0:=rfl;rw [h0]at hr;rw [hr,runL_if (fun _ x=>∀pre post,b.Streets=pre++x::post→∀y,y∈pre→¬meets y x) (fun s _=>s) () b.Streets () (fun l _=>∀x,x∈l→∀pre post,b.Streets=pre++x::post→∀y,y∈pre→¬meets y x) (by simp) (fun x l s=>by simp only [List.mem_cons,forall_eq_or_imp])]
      have hiff:(∀x,x∈b.Streets→∀pre post,b.Streets=pre++x::post→∀y,y∈pre→¬meets y x)↔b.Streets.Pairwise (fun s t=>¬meets s t):=by
       rw [pair_cases];exact⟨fun h pre x post hp y hy=>h x (by rw [hp];simp) pre post hp y hy,fun h x _ pre post hp y hy=>h pre x post hp y hy⟩
      by_cases hk:b.Streets.Pairwise (fun s t=>¬meets s t)
      · rw [if_pos hk,if_pos (hiff.2 hk)]
      · rw [if_neg hk,if_neg (fun h=>hk (hiff.1 h))]
     rw [hloop];by_cases hk:b.Streets.Pairwise (fun s t=>¬meets s t)
     · have:VBylaw b:=⟨ha.1.1,ha.1.2,by omega,hb.1.1,hb.1.2,by omega,hk⟩;rw [if_pos hk,if_pos this];rfl
     · have:¬VBylaw b:=fun h=>hk h.apart
       rw [if_neg hk,if_neg this];rfl
   · have:¬VBylaw b:=fun h=>hb ⟨⟨h.sts,h.ssort⟩,by have:=h.slen;omega⟩
     rw [if_pos ha,if_neg hb,if_neg this]
 · have:¬VBylaw b:=fun h=>ha ⟨⟨h.vers,h.vsort⟩,by have:=h.vlen;omega⟩
   rw [if_neg ha,if_neg this]
theorem pre_loop {α E:Type} {body:Int→Option (Sum Int E)} {ok:List α→α→Prop} {l:List α} (hl:l.length≤9223372036854775807) (c:E) (fin:E)
 (h:∀pre x post,l=pre++x::post→(∀p y q,pre=p++y::q→ok p y)→body (pre.length:Int)=some (if ok pre x then .inl ((pre.length+1:Nat):Int)else .inr c))
 (he:body (l.length:Int)=some (.inr fin)):loopF body 0=some (if∀pre x post,l=pre++x::post→ok pre x then fin else c):=by
 have hr:=loop_list (body:=body) (R:=E) l hl (fun k (_:List α)=>(k:Int)) (stepIf ok (fun s x=>s++ [x]) c) id (fun _=>fin) (fun pre s=>s=pre∧∀p y q,pre=p++y::q→ok p y)
  (fun pre x post s hp hpre=>by
   obtain⟨rfl,hpre⟩:=hpre;rw [h s x post hp hpre];by_cases hk:ok s x
   · rw [if_pos hk,stepIf_pos hk];refine⟨rfl,fun s' hs'=> ?_⟩;cases hs';refine⟨rfl,fun p y q hpq=> ?_⟩;rcases List.eq_nil_or_concat q with rfl|⟨r,z,rfl⟩
     · have:=List.append_inj' hpq rfl;obtain⟨h1,h2⟩:=this;cases h2;subst h1;exact hk
     · have e:s++ [x]=(p++y::r)++ [z]:=by rw [hpq];simp
       exact hpre p y r (List.append_inj' e rfl).1
   · rw [if_neg hk,stepIf_neg hk];exact⟨rfl,fun s' hs'=>by cases hs'⟩) (fun s _=>he) [] ⟨rfl,fun p y q h=>by simp at h⟩
 have h0:((0:Nat):Int)=0:=rfl;rw [h0]at hr;rw [hr,runL_if ok (fun s x=>s++ [x]) c l [] (fun l s=>∀pre x post,l=pre++x::post→ok (s++pre) x) (fun s pre x post h=>by simp at h) (fun x l s=> ?_)]
 · by_cases hq:∀pre x post,l=pre++x::post→ok pre x
   · rw [if_pos hq,if_pos (by simpa using hq)]
   · rw [if_neg hq,if_neg (by simpa using hq)];rfl
 · constructor
   · intro h;refine⟨by simpa using h [] x l rfl,fun pre y post hp=> ?_⟩
     have:=h (x::pre) y post (by simp [hp]);simpa using this
   · rintro⟨h1,h2⟩ pre y post hp;cases pre with
     |nil=>simp at hp;obtain⟨rfl,rfl⟩:=hp;simpa using h1
     |cons z pre=>
      simp at hp;obtain⟨rfl,hp⟩:=hp;have:=h2 pre y post hp;simpa using this
theorem rCheck_L6_eq (b:TBylaw) {pre post:List TStreet} {x:TStreet} (hp:b.Streets=pre++x::post) (hl:b.Streets.length≤9223372036854775807) (hx:VStreet x) (hv:∀y,y∈pre→VStreet y):loopF (m_R01_Check_L6 b (pre.length:Int) x) 0=some (if∀y,y∈pre→¬meets y x then .inl (pre.length:Int)else .inr 13):=by
 have hle:pre.length≤9223372036854775807:=by rw [hp]at hl;simp at hl;omega
 refine Eq.trans (all_loop (V:=fun y=>¬meets y x) hle (.inr 13) (.inl (pre.length:Int)) ?_ ?_) (by congr)
 · rintro p y q rfl _;unfold m_R01_Check_L6 m_R01_meet;have hy:=hv y (by simp);have hidx:idx b.Streets (p.length:Int)=some y:=by rw [hp,List.append_assoc];exact idx_pre
   have hxm:=hx.2.2.2.1;have hym:=hy.2.2.2.1;have hx2:=hx.2.2.2.2.1;have hy2:=hy.2.2.2.2.1;simp only [lt_pre,decide_true,if_true,hidx,Option.bind_some,Wsucc hle];rw [W_id (z:=x.First+x.Many) (by omega),W_id (z:=y.First+y.Many) (by omega)];unfold meets;by_cases h1:y.First<x.First+x.Many
   · by_cases h2:x.First<y.First+y.Many
     · simp [h1,h2]
     · simp [h1,h2]
   · simp [h1]
 · unfold m_R01_Check_L6;simp
theorem rCheck_eq (b:TBylaw) (h1:b.Versions.length≤9223372036854775807) (h2:b.Streets.length≤9223372036854775807):m_R01_Check b=some (if VBylaw b then 0 else 13):=by
 unfold m_R01_Check;by_cases g1:(b.Versions.length:Int)>60
 · have:¬VBylaw b:=fun h=>by have:=h.vlen;omega
   simp [g1,this]
 by_cases g2:(b.Streets.length:Int)>20
 · have:¬VBylaw b:=fun h=>by have:=h.slen;omega
   simp [g1,g2,this]
 simp only [g1,g2,decide_false,Bool.false_eq_true,if_false]
 have l1:loopF (m_R01_Check_L1 b) 0=some (if(∀x,x∈b.Versions→VVersion x)∧b.Versions.Pairwise (fun a b=>a.Source<b.Source)then .inl (b.Versions.length:Int)else .inr 13):=by
  refine Eq.trans (chain_loop (V:=VVersion) (num:=TVersion.Source) h1 (.inr 13) (.inl (b.Versions.length:Int)) ?_ ?_) (by congr)
  · intro pre x post hp;have hl:(pre++x::post).length≤9223372036854775807:=by rw [←hp];exact h1
    unfold m_R01_Check_L1;rw [hp];simp only [lt_pre,decide_true,if_true,idx_pre,Option.bind_some,rCheckVersion_eq];by_cases hv:VVersion x
    · rcases ahead (num:=TVersion.Source) hl with⟨h1,h2,h3⟩|⟨y,h1,h2,h3⟩
      · simp only [hv,if_true,h2,h3,Wsucc hl,bne_self_eq_false,Bool.false_eq_true,if_false];simp
      · simp only [hv,if_true,h1,h2,h3,Option.bind_some,Wsucc hl,true_and,Option.some.injEq,forall_eq'];by_cases hq:y.Source<x.Source
        · have:¬y.Source≥x.Source:=by omega
          simp [hq,this]
        · have:y.Source≥x.Source:=by omega
          simp [hq,this]
    · simp [hv]
  · unfold m_R01_Check_L1;simp
 rw [l1];by_cases ha:(∀x,x∈b.Versions→VVersion x)∧b.Versions.Pairwise (fun a b=>a.Source<b.Source)
 · rw [if_pos ha];simp only [Option.bind_some]
   have l5:=pre_loop (body:=m_R01_Check_L5 b) (ok:=fun pre x=>(VStreet x∧∀q,numOf TStreet.Id pre=some q→q<x.Id)∧∀y,y∈pre→¬meets y x) (l:=b.Streets) h2 (.inr 13) (.inl (b.Streets.length:Int)) (by
    intro pre x post hp hpre;have hl:(pre++x::post).length≤9223372036854775807:=by rw [←hp];exact h2
    have hvp:∀y,y∈pre→VStreet y:=fun y hy=>by
     obtain⟨p,q,rfl⟩:=List.append_of_mem hy;exact(hpre p y q rfl).1.1
    have hidx:idx b.Streets (pre.length:Int)=some x:=by rw [hp];exact idx_pre
    have hlt:(pre.length:Int)<(b.Streets.length:Int):=by rw [hp];exact lt_pre
    unfold m_R01_Check_L5;simp only [hlt,decide_true,if_true,hidx,Option.bind_some,rCheckStreet_eq];by_cases hv:VStreet x
    · have l6:=rCheck_L6_eq b hp h2 hv hvp;rcases ahead (num:=TStreet.Id) hl with⟨h1,h2,h3⟩|⟨y,h1,h2,h3⟩
      · simp only [hv,if_true,h2,h3,Wsucc hl,bne_self_eq_false,Bool.false_eq_true,if_false,l6,Option.bind_some];by_cases hm:∀y,y∈pre→¬meets y x
        · rw [if_pos hm,if_pos ⟨⟨trivial,by simp⟩,hm⟩]
        · rw [if_neg hm,if_neg (fun h=>hm h.2)]
      · have h2':idx b.Streets (W ((pre.length:Int)-1))=some y:=by rw [hp];exact h2
        simp only [hv,if_true,h1,h2',h3,Option.bind_some,Wsucc hl,true_and,Option.some.injEq,forall_eq',bne_self_eq_false,Bool.false_eq_true,if_false,l6];by_cases hq:y.Id<x.Id
        · have:¬y.Id≥x.Id:=by omega
          simp only [hq,this,decide_false,Bool.false_eq_true,if_false,true_and];by_cases hm:∀y,y∈pre→¬meets y x
          · rw [if_pos hm,if_pos hm]
          · rw [if_neg hm,if_neg hm]
        · have:y.Id≥x.Id:=by omega
          simp [hq,this]
    · simp [hv]) (by unfold m_R01_Check_L5;simp)
   rw [l5]
   have hiff:(∀pre x post,b.Streets=pre++x::post→(VStreet x∧∀q,numOf TStreet.Id pre=some q→q<x.Id)∧∀y,y∈pre→¬meets y x)↔VBylaw b:=by
    constructor
    · intro h
      have hv:∀s,s∈b.Streets→VStreet s:=fun s hs=>by
       obtain⟨p,q,hpq⟩:=List.append_of_mem hs;exact(h p s q hpq).1.1
      have hch:∀(l p:List TStreet),b.Streets=p++l→chain VStreet TStreet.Id l (numOf TStreet.Id p):=by
       intro l
       induction l with
       |nil=>intro p _;trivial
       |cons x l ih=>
        intro p hp;refine⟨(h p x l hp).1, ?_⟩;have:=ih (p++ [x]) (by simp [hp]);simpa [numOf]using this
      have hc:=(chain_iff VStreet TStreet.Id b.Streets none).1 (hch b.Streets [] rfl);exact⟨ha.1,ha.2,by omega,hv,hc.2.1,by omega,(pair_cases _).2 fun pre x post hp=>(h pre x post hp).2⟩
    · intro h pre x post hp;refine⟨⟨h.sts x (by rw [hp];simp),fun q hq=> ?_⟩,fun y hy=>(pair_cases _).1 h.apart pre x post hp y hy⟩;simp only [numOf]at hq;cases hg:pre.getLast? with
      |none=>rw [hg]at hq;cases hq
      |some y=>
       rw [hg]at hq;cases hq;exact(pair_cases _).1 h.ssort pre x post hp y (List.mem_of_getLast? hg)
   by_cases hb:VBylaw b
   · rw [if_pos hb,if_pos (hiff.2 hb)];rfl
   · rw [if_neg hb,if_neg (fun h=>hb (hiff.1 h))];rfl
 · have:¬VBylaw b:=fun h=>ha ⟨h.vers,h.vsort⟩
   rw [if_neg ha,if_neg this];rfl
theorem Check_both (b:TBylaw) (h1:b.Versions.length≤9223372036854775807) (h2:b.Streets.length≤9223372036854775807):m_bylaw_Check b=some (if VBylaw b then 0 else 13)∧m_R01_Check b=some (if VBylaw b then 0 else 13):=⟨Check_eq b h1 h2,rCheck_eq b h1 h2⟩
end Go.Proofs.YtejkiefdjcfapaaGreatDoor
namespace Go.Proofs.YtejkiefdjcfapaaGreatDoor
open Go Go.Sx Go.Lib
theorem cst_le (c:UInt8) (l:List UInt8):∀k,(cst c l k).2≤k
 |0=>Nat.le_refl _
 |k+1=>by
  unfold cst;split
  · exact Nat.le_refl _
  · exact Nat.le_succ_of_le (cst_le c l k)
theorem cst_many (c:UInt8) (l:List UInt8):∀k,(cst c l k).1.length≤k
 |0=>Nat.le_refl _
 |k+1=>by
  unfold cst;split
  · rw [List.length_append,List.length_singleton];have:=cst_many c l k;omega
  · exact Nat.le_succ_of_le (cst_many c l k)
theorem bOf_extract (s:ByteArray) (a k:Nat):YtejkiefdjcfapaaGreatDoor.bOf ((s.data.toList.take k).drop a)=s.extract a k:=by
 apply ByteArray.ext;apply Array.ext';rw [Lib.extract_data];show(s.data.toList.take k).drop a=_;rw [List.drop_take]
theorem at_k {s:ByteArray} {pre post:List UInt8} {x:UInt8} (h:s.data.toList=pre++x::post):idx s.data.toList (pre.length:Int)=some x∧s.data.toList[pre.length]?=some x∧pre.length<s.size:=by
 refine⟨by rw [h];unfold idx;simp,by rw [h];simp, ?_⟩;rw [Lib.size_eq,h];simp
theorem Wk {k:Nat} (h:k<9223372036854775807):W ((k:Int)+1)=((k+1:Nat):Int):=by unfold W;rw [wrap_id (by omega)];rfl
theorem rLines_eq (s:ByteArray) (hs:s.size≤8000):m_R01_Lines s=some ((linesL s.data.toList).map YtejkiefdjcfapaaGreatDoor.bOf):=by
 have hsz:s.data.toList.length=s.size:=(Lib.size_eq s).symm;obtain⟨l,hl⟩:∃l,l=s.data.toList:=⟨_,rfl⟩
 have hloop:=loop_list (body:=m_R01_Lines_L1 s) (E:=List ByteArray×Int×Int) (R:=Empty) l (by rw [hl];omega) (fun k (_:Unit)=>((cst 10 l k).1.map YtejkiefdjcfapaaGreatDoor.bOf,((cst 10 l k).2:Int),(k:Int))) (fun _ _=> .inl ()) (fun r=>nomatch r)
  (fun _=>((cst 10 l l.length).1.map YtejkiefdjcfapaaGreatDoor.bOf,((cst 10 l l.length).2:Int),(l.length:Int))) (fun _ _=>True) (fun pre x post _ he _=>⟨by
   obtain⟨h1,h2,h3⟩:=at_k (hl▸he);have hle:=cst_le 10 l pre.length;have hmn:=cst_many 10 l pre.length;unfold m_R01_Lines_L1;simp only;rw [if_pos (by simpa using h3),h1]
   simp only [Option.bind_some];rw [Wk (by omega)];have e:cst 10 l (pre.length+1)=if l[pre.length]?=some 10 then((cst 10 l pre.length).1++ [(l.take pre.length).drop (cst 10 l pre.length).2],pre.length+1)else cst 10 l pre.length:=rfl
   rw [e,hl,h2,←hl];by_cases hx:x=10
   · subst hx;rw [if_pos (by decide),if_pos rfl];have hb:=bOf_extract s (cst 10 l pre.length).2 pre.length;rw [←hl]at hb;unfold gd;rw [if_pos (by omega),if_pos (by simp;omega),List.map_append,List.map_cons,List.map_nil,hb];simp only [Int.toNat_natCast]
   · have hx2:¬(((x.toNat:Int)==10)=true):=by
      intro h;have h:(x.toNat:Int)=10:=by simpa using h
      exact hx (UInt8.toNat_inj.1 (by show x.toNat=10;omega))
     rw [if_neg hx2,if_neg (by simpa using hx)],fun _ _=>trivial⟩) (fun _ _=>by
   unfold m_R01_Lines_L1;simp only;rw [if_neg (by rw [hl,hsz];simp)]) () trivial
 have h0:(([]:List ByteArray),(0:Int),(0:Int))=((cst 10 l 0).1.map YtejkiefdjcfapaaGreatDoor.bOf,((cst 10 l 0).2:Int),(((0:Nat)):Int)):=rfl
 have hrun:∀m:List UInt8,runL (R:=Empty) (fun(_:Unit) (_:UInt8)=> .inl ()) m ()= .inl ():=fun m=>by
  induction m with
  |nil=>rfl
  |cons x m ih=>exact ih
 rw [hrun]at hloop;have hle:=cst_le 10 l l.length;have hmn:=cst_many 10 l l.length;have hll:l.length=s.size:=by rw [hl,hsz]
 unfold m_R01_Lines;rw [h0,hloop,←hl];simp only [Option.bind_some];unfold linesL;by_cases h:(cst 10 l l.length).2<l.length
 · rw [if_pos (by simp;omega),if_pos h];have hb:=bOf_extract s (cst 10 l l.length).2 l.length;rw [←hl,List.take_length,hll]at hb;unfold gd;rw [if_pos (by omega),if_pos (by simp;omega),List.map_append,List.map_cons,List.map_nil,hll,hb];simp only [Int.toNat_natCast]
 · rw [if_neg (by simp;omega),if_neg h,List.append_nil]
theorem spl_snoc (c:UInt8):∀l:List UInt8,spl c (l++ [c])=spl c l++ [[]]
 | []=>by simp [spl]
 |x::l=>by
  have ih:=spl_snoc c l;simp only [List.cons_append,spl];by_cases h:x=c
  · rw [if_pos h,if_pos h,ih];rfl
  · rw [if_neg h,if_neg h,ih];cases hs:spl c l with
    |nil=>have h1:=(spl_len c l).1;rw [hs]at h1;exact absurd h1 (by simp)
    |cons a r=>rfl
theorem cst_snoc (c:UInt8) (l:List UInt8):(cst c (l++ [c]) (l.length+1)).1=spl c l∧(cst c (l++ [c]) (l.length+1)).2=l.length+1:=by
 have h:=(cst_end c (l++ [c])).1;have hl:(l++ [c]).length=l.length+1:=by simp
 rw [hl,spl_snoc]at h
 have h2:(cst c (l++ [c]) (l.length+1)).2=l.length+1:=by
  show(if(l++ [c])[l.length]?=some c then _ else _:List (List UInt8)×Nat).2=_
  rw [if_pos (by simp)]
 refine⟨?_,h2⟩;have hx: [(l++ [c]).drop (cst c (l++ [c]) (l.length+1)).2]= [[]]:=by rw [h2,List.drop_eq_nil_of_le (by simp)]
 rw [hx]at h;exact(List.append_cancel_right h).symm
def ne0 (d:List UInt8):Bool:=decide (d≠ [])
theorem piece_ne (l:List UInt8) (a k:Nat) (ha:a≤k) (hk:k≤l.length):ne0 ((l.take k).drop a)=decide (a<k):=by
 unfold ne0;by_cases h:a<k
 · have:(l.take k).drop a≠ []:=fun e=>by
    have:=congrArg List.length e;rw [List.length_drop,List.length_take]at this;simp at this;omega
   simp [h,this]
 · have:(l.take k).drop a= []:=List.drop_eq_nil_of_le (by rw [List.length_take];omega);simp [h,this]
theorem rWords_eq (s:ByteArray) (hs:s.size≤8000):m_R01_Words s=some ((wordsL s.data.toList).map YtejkiefdjcfapaaGreatDoor.bOf):=by
 have hsz:s.data.toList.length=s.size:=(Lib.size_eq s).symm;obtain⟨l,hl⟩:∃l,l=s.data.toList:=⟨_,rfl⟩;have hll:l.length=s.size:=by rw [hl,hsz]
 have hLl:(l++ [32]).length=s.size+1:=by simp [hll]
 have hloop:=loop_list (body:=m_R01_Words_L1 s) (E:=Int×Int×List ByteArray×List ByteArray) (R:=Empty) (l++ [32]) (by omega) (fun k (_:Unit)=>((k:Int),((cst 32 (l++ [32]) k).2:Int), [],(((cst 32 (l++ [32]) k).1.filter ne0).map YtejkiefdjcfapaaGreatDoor.bOf))) (fun _ _=> .inl ()) (fun r=>nomatch r)
  (fun _=>(((l++ [32]).length:Int),((cst 32 (l++ [32]) (l++ [32]).length).2:Int), [],(((cst 32 (l++ [32]) (l++ [32]).length).1.filter ne0).map YtejkiefdjcfapaaGreatDoor.bOf))) (fun _ _=>True) (fun pre x post _ he _=>⟨by
   have hk:pre.length<s.size+1:=by rw [←hLl,he];simp
   have hx:(l++ [32])[pre.length]?=some x:=by rw [he];simp
   have hle:=cst_le 32 (l++ [32]) pre.length;have hmn:((cst 32 (l++ [32]) pre.length).1.filter ne0).length≤pre.length:=Nat.le_trans (List.length_filter_le _ _) (cst_many 32 (l++ [32]) pre.length);have e:cst 32 (l++ [32]) (pre.length+1)=if(l++ [32])[pre.length]?=some 32 then((cst 32 (l++ [32]) pre.length).1++ [((l++ [32]).take pre.length).drop (cst 32 (l++ [32]) pre.length).2],pre.length+1)else cst 32 (l++ [32]) pre.length:=rfl
   have htk:(l++ [32]).take pre.length=l.take pre.length:=List.take_append_of_le_length (by omega);have hb:=bOf_extract s (cst 32 (l++ [32]) pre.length).2 pre.length;rw [←hl]at hb;have hpn:=piece_ne l (cst 32 (l++ [32]) pre.length).2 pre.length hle (by omega)
   have key:∀b:Bool,(if b=true then [(l.take pre.length).drop (cst 32 (l++ [32]) pre.length).2]else []).map YtejkiefdjcfapaaGreatDoor.bOf=if b=true then [s.extract (cst 32 (l++ [32]) pre.length).2 pre.length]else []:=fun b=>by
    cases b
    · rfl
    · simp only [if_true,List.map_cons,List.map_nil,hb]
   have cutcase:x=32→(if(decide (((cst 32 (l++ [32]) pre.length).2:Int)<(pre.length:Int)))=true then
    gd ((0≤(pre.length:Int)∧(pre.length:Int)≤(s.size:Int))∧(0≤((cst 32 (l++ [32]) pre.length).2:Int)∧((cst 32 (l++ [32]) pre.length).2:Int)≤(pre.length:Int)))<|
    gd (((((cst 32 (l++ [32]) pre.length).1.filter ne0).map YtejkiefdjcfapaaGreatDoor.bOf).length+([(s.extract ((((cst 32 (l++ [32]) pre.length).2:Int)).toNat) (((pre.length:Int)).toNat))]:List ByteArray).length)*16≤140737488355328∧(((cst 32 (l++ [32]) pre.length).1.filter ne0).map YtejkiefdjcfapaaGreatDoor.bOf).length+([(s.extract ((((cst 32 (l++ [32]) pre.length).2:Int)).toNat) (((pre.length:Int)).toNat))]:List ByteArray).length≤9223372036854775807)<|
    some (Sum.inl (((pre.length+1:Nat):Int),((pre.length+1:Nat):Int),([]:List ByteArray),((((cst 32 (l++ [32]) pre.length).1.filter ne0).map YtejkiefdjcfapaaGreatDoor.bOf)++([(s.extract ((((cst 32 (l++ [32]) pre.length).2:Int)).toNat) (((pre.length:Int)).toNat))]:List ByteArray))))
    else(some (Sum.inl (((pre.length+1:Nat):Int),((pre.length+1:Nat):Int),([]:List ByteArray),(((cst 32 (l++ [32]) pre.length).1.filter ne0).map YtejkiefdjcfapaaGreatDoor.bOf))):Option (Sum (Int×Int×List ByteArray×List ByteArray) (Int×Int×List ByteArray×List ByteArray))))=
     some (.inl (((pre.length+1:Nat):Int),((cst 32 (l++ [32]) (pre.length+1)).2:Int), [],(((cst 32 (l++ [32]) (pre.length+1)).1.filter ne0).map YtejkiefdjcfapaaGreatDoor.bOf))):=fun hx32=>by
    rw [e,hx,hx32,if_pos rfl,htk];simp only;rw [List.filter_append,List.map_append,List.filter_cons,List.filter_nil,hpn,key];by_cases hc:(cst 32 (l++ [32]) pre.length).2<pre.length
    · rw [if_pos (by simpa using hc),if_pos (by simpa using hc)]
      unfold gd;rw [if_pos (by omega),if_pos (by rw [List.length_map];simp only [List.length_singleton];omega)];simp only [Int.toNat_natCast]
    · rw [if_neg (by simpa using hc),if_neg (by simpa using hc),List.append_nil]
   unfold m_R01_Words_L1;simp only;rw [if_pos (by simp;omega)];by_cases hin:pre.length<s.size
   · rw [if_pos (by simpa using hin)]
     have h1:idx s.data.toList (pre.length:Int)=some x:=by
      unfold idx;rw [←hl];have h0:decide ((0:Int)≤(pre.length:Int))=true:=by simp
      simp only [h0,Int.toNat_natCast];rw [←hx,List.getElem?_append_left (by omega)]
     rw [h1];simp only [Option.bind_some];rw [Wk (by omega)];by_cases hx32:x=32
     · rw [if_neg (by subst hx32;decide)];exact cutcase hx32
     · have hx2:(((x.toNat:Int) !=32)=true):=by
        have:(x.toNat:Int)≠32:=fun h=>hx32 (UInt8.toNat_inj.1 (by show x.toNat=32;omega))
        simpa using this
       rw [if_pos hx2,e,hx,if_neg (by simpa using hx32)]
   · rw [if_neg (by simpa using hin),Wk (by omega)]
     have hx32:x=32:=by
      rw [List.getElem?_append_right (by omega)]at hx;have:pre.length-l.length=0:=by omega
      rw [this]at hx;simpa using hx.symm
     exact cutcase hx32,fun _ _=>trivial⟩) (fun _ _=>by
   unfold m_R01_Words_L1;simp only;rw [if_neg (by rw [hLl];simp;omega)]) () trivial
 have h0:((0:Int),(0:Int),([]:List ByteArray),([]:List ByteArray))=((((0:Nat)):Int),((cst 32 (l++ [32]) 0).2:Int),([]:List ByteArray),(((cst 32 (l++ [32]) 0).1.filter ne0).map YtejkiefdjcfapaaGreatDoor.bOf)):=rfl
 have hrun:∀m:List UInt8,runL (R:=Empty) (fun(_:Unit) (_:UInt8)=> .inl ()) m ()= .inl ():=fun m=>by
  induction m with
  |nil=>rfl
  |cons x m ih=>exact ih
 rw [hrun]at hloop;unfold m_R01_Words;rw [h0,hloop,←hl];simp only [Option.bind_some];have hl1:(l++ [(32:UInt8)]).length=l.length+1:=by simp
 rw [hl1,(cst_snoc 32 l).1];rfl
def says (l:List UInt8):Bool:=decide (wordsL l≠ [])&&decide (l.head?≠some 35)
theorem rSays_eq (s:ByteArray) (hs:s.size≤8000):m_R01_Says s=some (says s.data.toList):=by
 unfold m_R01_Says says;rw [rWords_eq s hs];simp only [Option.bind_some];cases hw:wordsL s.data.toList with
 |nil=>simp
 |cons a r=>
  rw [if_pos (by simp)];cases hl:s.data.toList with
  |nil=>
   rw [hl]at hw;exact absurd hw (by simp [wordsL,spl])
  |cons x l=>
   have:idx (x::l) 0=some x:=rfl;rw [this];simp only [Option.bind_some,List.head?_cons];congr 1;by_cases h:x=35
   · subst h;rfl
   · have:(x.toNat:Int)≠35:=fun e=>h (UInt8.toNat_inj.1 (by show x.toNat=35;omega))
     simp [h,this]
instance (c : UInt8) : Decidable (Dig c) := by unfold Dig; exact inferInstance
def numStep (n:Int) (c:UInt8):Sum Int Unit:=if Dig c then .inl (10*n+((c.toNat:Int)-48))else .inr ()
theorem numRun:∀(l pre:List UInt8),(∀c∈pre,Dig c)→runL numStep l (DV pre:Int)=if∀c∈l,Dig c then .inl (DV (pre++l):Int)else .inr ()
 | [],pre,_=>by simp [runL]
 |x::l,pre,hp=>by
  unfold runL;by_cases hx:Dig x
  · have e:numStep (DV pre:Int) x= .inl (DV (pre++ [x]):Int):=by
     unfold numStep;rw [if_pos hx,DV_snoc];unfold Dig at hx;congr 1;omega
    rw [e];simp only
    rw [numRun l (pre++ [x]) (fun c hc=>by
     rcases List.mem_append.1 hc with hc|hc
     · exact hp c hc
     · simp only [List.mem_singleton]at hc;subst hc;exact hx)]
    have h1:(∀c∈x::l,Dig c)↔∀c∈l,Dig c:=⟨fun h c hc=>h c (List.mem_cons_of_mem _ hc),fun h c hc=>by
     rcases List.mem_cons.1 hc with rfl|hc
     · exact hx
     · exact h c hc⟩
    rw [show pre++ [x]++l=pre++x::l by simp];by_cases h:∀c∈l,Dig c
    · rw [if_pos h,if_pos (h1.2 h)]
    · rw [if_neg h,if_neg fun g=>h (h1.1 g)]
  · have e:numStep (DV pre:Int) x= .inr ():=by unfold numStep;rw [if_neg hx]
    rw [e,if_neg fun h=>hx (h x List.mem_cons_self)]
theorem u8_dig {c:UInt8} (h:Dig c):IntKind.u8.wrap ((c.toNat:Int)-48)=(c.toNat:Int)-48:=by
 unfold Dig at h;obtain⟨k,hk⟩:∃k:Nat,c.toNat=k+48:=⟨c.toNat-48,by omega⟩;rw [hk];have hk2:k<10:=by omega
 rw [show(((k+48:Nat):Int)-48)=(k:Int) by omega];clear hk h;revert k;decide
theorem numLoop (w:ByteArray) (hw:w.size≤6):loopF (m_R01_Number_L1 w) (0,0)=some (if∀c∈w.data.toList,Dig c then .inl ((DV w.data.toList:Int),(w.size:Int))else .inr (0,false)):=by
 have hsz:w.data.toList.length=w.size:=(Lib.size_eq w).symm
 have hloop:=loop_list (body:=m_R01_Number_L1 w) (E:=Sum (Int×Int) (Int×Bool)) (R:=Unit) w.data.toList (by omega) (fun k (n:Int)=>(n,(k:Int))) numStep (fun _=> .inr (0,false)) (fun n=> .inl (n,(w.data.toList.length:Int)))
  (fun pre n=>n=(DV pre:Int)∧∀c∈pre,Dig c) (fun pre x post n he hP=>by
   obtain⟨h1,h2,h3⟩:=at_k he;have hlt:=DV_lt pre.length pre rfl hP.2;have h6:DV pre<1000000:=Nat.lt_of_lt_of_le hlt (Nat.pow_le_pow_right (by decide) (show pre.length≤6 by omega));unfold m_R01_Number_L1;simp only;rw [if_pos (by simpa using h3),h1]
   simp only [Option.bind_some];unfold numStep;by_cases hx:Dig x
   · have hx':=hx;unfold Dig at hx';rw [if_neg (by simp;omega),if_neg (by simp;omega),if_pos hx,u8_dig hx];have e1:W (10*n)=10*n:=by unfold W;exact wrap_id (by omega)
     have e2:W ((x.toNat:Int)-48)=(x.toNat:Int)-48:=by unfold W;exact wrap_id (by omega)
     have e3:W (10*n+((x.toNat:Int)-48))=10*n+((x.toNat:Int)-48):=by unfold W;exact wrap_id (by omega)
     rw [e1,e2,e3,Wk (by omega)];refine⟨rfl,fun s' hs'=> ?_⟩;cases hs';refine⟨?_,fun c hc=> ?_⟩
     · rw [DV_snoc];omega
     · rcases List.mem_append.1 hc with hc|hc
       · exact hP.2 c hc
       · simp only [List.mem_singleton]at hc;subst hc;exact hx
   · rw [if_neg hx];refine⟨?_,fun s' hs'=>by cases hs'⟩;have hx':x.toNat<48∨57<x.toNat:=by unfold Dig at hx;omega
     by_cases h48:x.toNat<48
     · rw [if_pos (by simp;omega)]
     · rw [if_neg (by simp;omega),if_pos (by simp;omega)]) (fun n hP=>by
   unfold m_R01_Number_L1;simp only;rw [if_neg (by rw [hsz];simp),hsz]) 0 ⟨rfl,by simp⟩
 have h0:((0:Int),(0:Int))=((0:Int),(((0:Nat)):Int)):=rfl;have hr:=numRun w.data.toList [] (by simp);have hd0:(DV []:Int)=0:=rfl;rw [hd0,List.nil_append]at hr;rw [h0,hloop,hr];by_cases h:∀c∈w.data.toList,Dig c
 · rw [if_pos h,if_pos h,hsz]
 · rw [if_neg h,if_neg h]
theorem rNumber_eq (w:ByteArray):m_R01_Number w 6=some (match numW w.data.toList with|some v=>(v,true)|none=>(0,false)):=by
 have hsz:w.data.toList.length=w.size:=(Lib.size_eq w).symm;unfold m_R01_Number;by_cases h0:w.data.toList= []
 · have hno:¬NumS w.data.toList:=fun h=>h.1 h0
   rw [numW_no hno,if_pos (by rw [ByteArray.toList_eq,ByteArray.toList_eq,h0];rfl)]
 · rw [if_neg (by rw [ByteArray.toList_eq,ByteArray.toList_eq];simpa using h0)]
   by_cases h6:w.size>6
   · have hno:¬NumS w.data.toList:=fun h=>by have:=h.2.1;omega
     rw [numW_no hno,if_pos (by simp;omega)]
   · rw [if_neg (by simp;omega)];have hl:=numLoop w (by omega);cases hd:w.data.toList with
     |nil=>exact absurd hd h0
     |cons x l=>
      have hi:idx (x::l) 0=some x:=rfl;rw [hi];simp only [Option.bind_some];rw [hd]at hl;have hlen:w.size=l.length+1:=by rw [←hsz,hd];rfl
      have fin:(∀r,x::l=x::r→x=48→r= [])→(Option.bind (loopF (m_R01_Number_L1 w) (0,0)) fun e=>match e with| .inl (n59,i60)=>some (n59,true)| .inr rr61=>some rr61)=some (match numW (x::l)with|some v=>(v,true)|none=>(0,false)):=fun hz=>by
       rw [hl];by_cases ha:∀c∈x::l,Dig c
       · have hy:NumS (x::l):=⟨by simp,by simp;omega,fun c r e hc=>by cases e;exact hz _ rfl hc,ha⟩;rw [if_pos ha,numW_yes hy];rfl
       · have hno:¬NumS (x::l):=fun h=>ha h.2.2.2
         rw [if_neg ha,numW_no hno];rfl
      by_cases hx:x=48
      · rw [if_pos (by subst hx;rfl)];by_cases h1:w.size>1
        · have hno:¬NumS (x::l):=fun h=>by
           have:=h.2.2.1 x l rfl hx;rw [this]at hlen;simp at hlen;omega
          rw [if_pos (by simp;omega),numW_no hno]
        · rw [if_neg (by simp;omega)]
          exact fin fun r e _=>by
           cases e;exact List.eq_nil_of_length_eq_zero (by omega)
      · have hx2:¬(((x.toNat:Int)==48)=true):=by
         intro h;have h:(x.toNat:Int)=48:=by simpa using h
         exact hx (UInt8.toNat_inj.1 (by show x.toNat=48;omega))
        rw [if_neg hx2];exact fin fun r _ hc=>absurd hc hx
theorem numsRun:∀(l:List ByteArray) (out:List Int),runL (fun(o:List Int) (e:ByteArray)=>match numW e.data.toList with|some v=>(.inl (o++ [v]):Sum (List Int) Unit)|none=> .inr ()) l out=(match(bl l).mapM numW with
 |some ns=> .inl (out++ns)
 |none=> .inr ())
 | [],out=>by simp [runL,bl]
 |x::l,out=>by
  unfold runL;have e:bl (x::l)=x.data.toList::bl l:=rfl;rw [e,List.mapM_cons];cases hx:numW x.data.toList with
  |none=>simp only;rfl
  |some v=>
   simp only;rw [numsRun l (out++ [v])];cases hl:(bl l).mapM numW with
   |none=>rfl
   |some ns=>simp
theorem rNumbers_eq (l:List ByteArray) (hl:l.length≤10000):m_R01_Numbers l 6=some (match(bl l).mapM numW with|some ns=>(ns,true)|none=>([],false)):=by
 have hloop:=loop_list (body:=m_R01_Numbers_L1 l 6) (E:=Sum (List Int×Int) (List Int×Bool)) (R:=Unit) l (by omega) (fun k (o:List Int)=>(o,(k:Int))) (fun(o:List Int) (e:ByteArray)=>match numW e.data.toList with|some v=> .inl (o++ [v])|none=> .inr ()) (fun _=> .inr ([],false)) (fun o=> .inl (o,(l.length:Int)))
  (fun pre o=>o.length=pre.length) (fun pre x post o he hP=>by
   have hk:pre.length<l.length:=by rw [he];simp
   have hi:idx l (pre.length:Int)=some x:=by rw [he];unfold idx;simp
   unfold m_R01_Numbers_L1;simp only;rw [if_pos (by simpa using hk),hi]
   simp only [Option.bind_some];rw [rNumber_eq];simp only [Option.bind_some];cases hx:numW x.data.toList with
   |none=>
    refine⟨rfl,fun s' hs'=>by cases hs'⟩
   |some v=>
    simp only [Bool.not_true,Bool.false_eq_true,if_false];unfold gd;rw [if_pos (by simp only [List.length_singleton];omega),Wk (by omega)];refine⟨rfl,fun s' hs'=> ?_⟩;cases hs';simp [hP]) (fun o hP=>by
   unfold m_R01_Numbers_L1;simp) [] rfl
 have h0:(([]:List Int),(0:Int))=(([]:List Int),(((0:Nat)):Int)):=rfl;unfold m_R01_Numbers;rw [h0,hloop,numsRun];cases(bl l).mapM numW<;>rfl
theorem text_eq (n:Int) (h:Small n):m_R01_Text n=some ⟨(Lib.itoa n).toArray⟩:=by
 unfold Small at h;unfold m_R01_Text gd;rw [if_pos (by omega)]
theorem addN_assoc (o:ByteArray) (x:Int):(o++(⟨#[32]⟩:ByteArray))++⟨(Lib.itoa x).toArray⟩=addN o x:=by
 unfold addN;rw [ByteArray.append_assoc]
theorem rRow_step (ns pre post:List Int) (x:Int) (o:ByteArray) (hl:ns=pre++x::post) (hn:ns.length≤100) (hx:Small x) (ho:o.size≤100+7*pre.length) (hne:o.size≠0):m_R01_Row_L1 ns (o,(pre.length:Int))=some (.inl (addN o x,((pre.length+1:Nat):Int))):=by
 have hk:pre.length<ns.length:=by rw [hl];simp
 have hlen:=small_len hx
 have hi:idx ns (pre.length:Int)=some x:=by
  rw [hl];unfold idx;simp
 unfold m_R01_Row_L1;simp only;rw [if_pos (by simpa using hk),hi]
 simp only [Option.bind_some]
 rw [if_pos (by
  rw [ByteArray.toList_eq,ByteArray.toList_eq];have:o.data.toList≠ []:=fun e=>hne (by rw [Lib.size_eq,e];rfl)
  simpa using this),text_eq x hx]
 simp only [Option.bind_some];unfold gd;rw [if_pos (by rw [one_size];omega),if_pos (by rw [ByteArray.size_append,one_size,itoa_size];omega),addN_assoc,Wk (by omega)]
theorem rRow_eq (word:ByteArray) (hw:word.size≤100) (hw0:word.size≠0) (ns:List Int) (hn:ns.length≤100) (h:∀n∈ns,Small n):m_R01_Row word ns=some ⟨(rowL word.data.toList ns).toArray⟩:=by
 have hloop:=loop_list (body:=m_R01_Row_L1 ns) (E:=ByteArray×Int) (R:=Empty) ns (by omega) (fun k (o:ByteArray)=>(o,(k:Int))) (fun o (e:Int)=> .inl (addN o e)) (fun r=>nomatch r) (fun o=>(o,(ns.length:Int)))
  (fun pre o=>(o.data.toList=rowL word.data.toList pre∧o.size≤100+7*pre.length)∧o.size≠0) (fun pre x post o hl hP=>⟨rRow_step ns pre post x o hl hn (h x (by rw [hl];simp)) hP.1.2 hP.2,fun s' hs'=>by
   cases hs';refine⟨addN_inv word o pre x (h x (by rw [hl];simp)) hP.1, ?_⟩;unfold addN;rw [ByteArray.size_append];have:=hP.2;omega⟩) (fun o _=>by
   unfold m_R01_Row_L1;simp) word ⟨⟨by simp [rowL],by simp;omega⟩,hw0⟩
 rw [runL_foldl]at hloop;have hinv:=row_fold word ns [] word h ⟨by simp [rowL],by simp;omega⟩;have h0:(word,(0:Int))=(word,(((0:Nat)):Int)):=rfl;unfold m_R01_Row;rw [h0,hloop];simp only [Option.bind_some];congr 1;apply ByteArray.ext;apply Array.ext';rw [hinv.1,List.nil_append]
def addV (o:ByteArray) (v:TVersion):ByteArray:=o++⟨(rowL wV (verN v)).toArray⟩++⟨#[10]⟩
theorem addV_inv (t:List UInt8) (o:ByteArray) (pre:List TVersion) (x:TVersion) (B:Nat) (hx:∀n∈verN x,Small n) (h:o.data.toList=t++linesV pre∧o.size≤B+100*pre.length):(addV o x).data.toList=t++linesV (pre++ [x])∧(addV o x).size≤B+100*(pre++ [x]).length:=by
 have hrl:=rowL_len wV (verN x) 6 fun n hn=>small_len (hx n hn)
 have hv:(verN x).length=11:=rfl;have hv2:wV.length=7:=rfl;rw [hv,hv2]at hrl;have hrs:(⟨(rowL wV (verN x)).toArray⟩:ByteArray).size=(rowL wV (verN x)).length:=rfl;unfold addV;refine⟨?_, ?_⟩
 · rw [ByteArray.data_append,ByteArray.data_append,Array.toList_append,Array.toList_append,h.1];unfold linesV;rw [List.flatMap_append];simp
 · rw [ByteArray.size_append,ByteArray.size_append,hrs,one_size,List.length_append,List.length_singleton];omega
theorem addV_fold (t:List UInt8) (B:Nat):∀(l pre:List TVersion) (o:ByteArray),(∀v∈l,∀n∈verN v,Small n)→o.data.toList=t++linesV pre∧o.size≤B+100*pre.length→(l.foldl addV o).data.toList=t++linesV (pre++l)
 | [],pre,o,_,h=>by rw [List.append_nil];exact h.1
 |x::l,pre,o,hl,h=>by
  rw [List.foldl_cons,show pre++x::l=(pre++ [x])++l by simp];exact addV_fold t B l (pre++ [x]) _ (fun v hv=>hl v (List.mem_cons_of_mem _ hv)) (addV_inv t o pre x B (hl x List.mem_cons_self) h)
theorem wordV_list:wordV.data.toList=wV:=rfl
theorem wordV_size:wordV.size=7:=rfl
theorem addV_row (x:TVersion) (hx:∀n∈verN x,Small n):m_R01_Row wordV (verN x)=some ⟨(rowL wV (verN x)).toArray⟩:=by
 have hv:(verN x).length=11:=rfl;have h:=rRow_eq wordV (by rw [wordV_size];omega) (by rw [wordV_size];omega) (verN x) (by omega) hx;rw [wordV_list]at h;exact h
theorem addV_step (b:TBylaw) (pre post:List TVersion) (x:TVersion) (o:ByteArray) (hl:b.Versions=pre++x::post) (hx:∀n∈verN x,Small n) (hn:b.Versions.length≤1000) (B:Nat) (hB:B≤100000) (ho:o.size≤B+100*pre.length):m_R01_Print_L1 b (o,(pre.length:Int))=some (.inl (addV o x,((pre.length+1:Nat):Int))):=by
 have hk:pre.length<b.Versions.length:=by rw [hl];simp
 have hi:idx b.Versions (pre.length:Int)=some x:=by rw [hl];unfold idx;simp
 have hrl:=rowL_len wV (verN x) 6 fun n hn=>small_len (hx n hn)
 have hv:(verN x).length=11:=rfl;have hv2:wV.length=7:=rfl;rw [hv,hv2]at hrl;have hrs:(⟨(rowL wV (verN x)).toArray⟩:ByteArray).size=(rowL wV (verN x)).length:=rfl;unfold m_R01_Print_L1;simp only;rw [if_pos (by simpa using hk),hi]
 simp only [Option.bind_some];have hrow':m_R01_Row (⟨#[118,101,114,115,105,111,110]⟩:ByteArray) ([x.Source,x.Class,x.From,x.On.Lo,x.On.Hi,x.Off.Lo,x.Off.Hi,x.Moon,x.Fog,x.Known,x.Until]:List Int)=some ⟨(rowL wV (verN x)).toArray⟩:=addV_row x hx;rw [hrow',Option.bind_some];unfold gd;rw [if_pos (by rw [hrs];omega),if_pos (by rw [ByteArray.size_append,hrs,one_size];omega),Wk (by omega)];rfl
theorem addV_end (b:TBylaw) (o:ByteArray):m_R01_Print_L1 b (o,(b.Versions.length:Int))=some (.inr (o,(b.Versions.length:Int))):=by
 unfold m_R01_Print_L1;simp
theorem addV_loop (b:TBylaw) (t:List UInt8) (o:ByteArray) (ho:o.data.toList=t) (B:Nat) (hs2:B≤100000) (hs:o.size≤B) (hn:b.Versions.length≤1000) (hx:∀v∈b.Versions,∀n∈verN v,Small n):loopF (m_R01_Print_L1 b) (o,0)=some (⟨(t++linesV b.Versions).toArray⟩,(b.Versions.length:Int)):=by
 have hloop:=loop_list (body:=m_R01_Print_L1 b) (E:=ByteArray×Int) (R:=Empty) b.Versions (by omega) (fun k (o:ByteArray)=>(o,(k:Int))) (fun o (v:TVersion)=> .inl (addV o v)) (fun r=>nomatch r) (fun o=>(o,(b.Versions.length:Int)))
  (fun pre o=>o.data.toList=t++linesV pre∧o.size≤B+100*pre.length) (fun pre x post o hl hP=>⟨addV_step b pre post x o hl (hx x (by rw [hl];simp)) hn B hs2 hP.2,fun s' hs'=>by
   cases hs';exact addV_inv t o pre x B (hx x (by rw [hl];simp)) hP⟩) (fun o _=>addV_end b o) o ⟨by simp [ho,linesV],by simp;omega⟩
 rw [runL_foldl]at hloop;have hk:=addV_fold t B b.Versions [] o hx ⟨by simp [ho,linesV],by simp;omega⟩;rw [List.nil_append]at hk
 have he:b.Versions.foldl addV o=⟨(t++linesV b.Versions).toArray⟩:=by
  apply ByteArray.ext;apply Array.ext';rw [hk]
 refine Eq.trans hloop ?_;show some (b.Versions.foldl addV o,(b.Versions.length:Int))=_;rw [he]
def addS (o:ByteArray) (v:TStreet):ByteArray:=o++⟨(rowL wS (strN v)).toArray⟩++⟨#[10]⟩
theorem addS_inv (t:List UInt8) (o:ByteArray) (pre:List TStreet) (x:TStreet) (B:Nat) (hx:∀n∈strN x,Small n) (h:o.data.toList=t++linesS pre∧o.size≤B+100*pre.length):(addS o x).data.toList=t++linesS (pre++ [x])∧(addS o x).size≤B+100*(pre++ [x]).length:=by
 have hrl:=rowL_len wS (strN x) 6 fun n hn=>small_len (hx n hn)
 have hv:(strN x).length=5:=rfl;have hv2:wS.length=6:=rfl;rw [hv,hv2]at hrl;have hrs:(⟨(rowL wS (strN x)).toArray⟩:ByteArray).size=(rowL wS (strN x)).length:=rfl;unfold addS;refine⟨?_, ?_⟩
 · rw [ByteArray.data_append,ByteArray.data_append,Array.toList_append,Array.toList_append,h.1];unfold linesS;rw [List.flatMap_append];simp
 · rw [ByteArray.size_append,ByteArray.size_append,hrs,one_size,List.length_append,List.length_singleton];omega
theorem addS_fold (t:List UInt8) (B:Nat):∀(l pre:List TStreet) (o:ByteArray),(∀v∈l,∀n∈strN v,Small n)→o.data.toList=t++linesS pre∧o.size≤B+100*pre.length→(l.foldl addS o).data.toList=t++linesS (pre++l)
 | [],pre,o,_,h=>by rw [List.append_nil];exact h.1
 |x::l,pre,o,hl,h=>by
  rw [List.foldl_cons,show pre++x::l=(pre++ [x])++l by simp];exact addS_fold t B l (pre++ [x]) _ (fun v hv=>hl v (List.mem_cons_of_mem _ hv)) (addS_inv t o pre x B (hl x List.mem_cons_self) h)
theorem wordS_list:wordS.data.toList=wS:=rfl
theorem wordS_size:wordS.size=6:=rfl
theorem addS_row (x:TStreet) (hx:∀n∈strN x,Small n):m_R01_Row wordS (strN x)=some ⟨(rowL wS (strN x)).toArray⟩:=by
 have hv:(strN x).length=5:=rfl;have h:=rRow_eq wordS (by rw [wordS_size];omega) (by rw [wordS_size];omega) (strN x) (by omega) hx;rw [wordS_list]at h;exact h
theorem addS_step (b:TBylaw) (pre post:List TStreet) (x:TStreet) (o:ByteArray) (hl:b.Streets=pre++x::post) (hx:∀n∈strN x,Small n) (hn:b.Streets.length≤1000) (B:Nat) (hB:B≤100000) (ho:o.size≤B+100*pre.length):m_R01_Print_L2 b (o,(pre.length:Int))=some (.inl (addS o x,((pre.length+1:Nat):Int))):=by
 have hk:pre.length<b.Streets.length:=by rw [hl];simp
 have hi:idx b.Streets (pre.length:Int)=some x:=by rw [hl];unfold idx;simp
 have hrl:=rowL_len wS (strN x) 6 fun n hn=>small_len (hx n hn)
 have hv:(strN x).length=5:=rfl;have hv2:wS.length=6:=rfl;rw [hv,hv2]at hrl;have hrs:(⟨(rowL wS (strN x)).toArray⟩:ByteArray).size=(rowL wS (strN x)).length:=rfl;unfold m_R01_Print_L2;simp only;rw [if_pos (by simpa using hk),hi]
 simp only [Option.bind_some];have hrow':m_R01_Row (⟨#[115,116,114,101,101,116]⟩:ByteArray) ([x.Id,x.Class,x.District,x.First,x.Many]:List Int)=some ⟨(rowL wS (strN x)).toArray⟩:=addS_row x hx;rw [hrow',Option.bind_some];unfold gd;rw [if_pos (by rw [hrs];omega),if_pos (by rw [ByteArray.size_append,hrs,one_size];omega),Wk (by omega)];rfl
theorem addS_end (b:TBylaw) (o:ByteArray):m_R01_Print_L2 b (o,(b.Streets.length:Int))=some (.inr (o,(b.Streets.length:Int))):=by
 unfold m_R01_Print_L2;simp
theorem addS_loop (b:TBylaw) (t:List UInt8) (o:ByteArray) (ho:o.data.toList=t) (B:Nat) (hs2:B≤100000) (hs:o.size≤B) (hn:b.Streets.length≤1000) (hx:∀v∈b.Streets,∀n∈strN v,Small n):loopF (m_R01_Print_L2 b) (o,0)=some (⟨(t++linesS b.Streets).toArray⟩,(b.Streets.length:Int)):=by
 have hloop:=loop_list (body:=m_R01_Print_L2 b) (E:=ByteArray×Int) (R:=Empty) b.Streets (by omega) (fun k (o:ByteArray)=>(o,(k:Int))) (fun o (v:TStreet)=> .inl (addS o v)) (fun r=>nomatch r) (fun o=>(o,(b.Streets.length:Int)))
  (fun pre o=>o.data.toList=t++linesS pre∧o.size≤B+100*pre.length) (fun pre x post o hl hP=>⟨addS_step b pre post x o hl (hx x (by rw [hl];simp)) hn B hs2 hP.2,fun s' hs'=>by
   cases hs';exact addS_inv t o pre x B (hx x (by rw [hl];simp)) hP⟩) (fun o _=>addS_end b o) o ⟨by simp [ho,linesS],by simp;omega⟩
 rw [runL_foldl]at hloop;have hk:=addS_fold t B b.Streets [] o hx ⟨by simp [ho,linesS],by simp;omega⟩;rw [List.nil_append]at hk
 have he:b.Streets.foldl addS o=⟨(t++linesS b.Streets).toArray⟩:=by
  apply ByteArray.ext;apply Array.ext';rw [hk]
 refine Eq.trans hloop ?_;show some (b.Streets.foldl addS o,(b.Streets.length:Int))=_;rw [he]
theorem rPrintV (b:TBylaw) (hb:SmallB b):loopF (m_R01_Print_L1 b) ((⟨#[]⟩:ByteArray),0)=some (⟨(linesV b.Versions).toArray⟩,(b.Versions.length:Int)):=
 addV_loop b [] ⟨#[]⟩ rfl 0 (Nat.zero_le _) (Nat.le_refl _) hb.2.2.1 hb.1
theorem rPrintS (b:TBylaw) (hb:SmallB b):loopF (m_R01_Print_L2 b) (⟨(linesV b.Versions).toArray⟩,0)=some (⟨(printL b).toArray⟩,(b.Streets.length:Int)):=by
 have hvl:=linesV_len b.Versions hb.1;have hbv:=hb.2.2.1;have hvs:(⟨(linesV b.Versions).toArray⟩:ByteArray).size=(linesV b.Versions).length:=rfl
 have hpl:linesV b.Versions++linesS b.Streets=printL b:=by
  unfold printL rowsB linesV linesS;rw [List.flatMap_append,List.flatMap_map,List.flatMap_map]
 rw [addS_loop b (linesV b.Versions) _ rfl (linesV b.Versions).length (by omega) (by rw [hvs];exact Nat.le_refl _) hb.2.2.2 hb.2.1,hpl]
theorem VBylaw.small {b:TBylaw} (h:VBylaw b):SmallB b:=by
 refine⟨fun v hv n hn=> ?_,fun v hv n hn=> ?_,by have:=h.vlen;omega,by have:=h.slen;omega⟩
 · have hV:=h.vers v hv;unfold VVersion at hV;unfold Small;simp only [verN,List.mem_cons,List.not_mem_nil,or_false]at hn;rcases hn with rfl|rfl|rfl|rfl|rfl|rfl|rfl|rfl|rfl|rfl|rfl<;>omega
 · have hV:=h.sts v hv;unfold VStreet at hV;unfold Small;simp only [strN,List.mem_cons,List.not_mem_nil,or_false]at hn;rcases hn with rfl|rfl|rfl|rfl|rfl<;>omega
open Classical in theorem Print_eq (b:TBylaw) (h1:b.Versions.length≤9223372036854775807) (h2:b.Streets.length≤9223372036854775807):m_bylaw_Print b=some (if VBylaw b then(⟨(printL b).toArray⟩,0)else(⟨#[]⟩,13)):=by
 unfold m_bylaw_Print;rw [(Check_both b h1 h2).1];simp only [Option.bind_some];by_cases h:VBylaw b
 · rw [if_pos h,if_pos h];unfold gd;rw [if_neg (by decide),if_pos ((smallB_iff b).2 h.small)]
 · rw [if_neg h,if_neg h,if_pos (by decide)]
open Classical in theorem rPrint_eq (b:TBylaw) (h1:b.Versions.length≤9223372036854775807) (h2:b.Streets.length≤9223372036854775807):m_R01_Print b=some (if VBylaw b then(⟨(printL b).toArray⟩,0)else(⟨#[]⟩,13)):=by
 unfold m_R01_Print;rw [(Check_both b h1 h2).2];simp only [Option.bind_some];by_cases h:VBylaw b
 · rw [if_pos h,if_pos h,if_neg (by decide),rPrintV b h.small];simp only [Option.bind_some];rw [rPrintS b h.small];simp only [Option.bind_some]
 · rw [if_neg h,if_neg h,if_pos (by decide)]
theorem bl_bOf (l:List (List UInt8)):bl (l.map YtejkiefdjcfapaaGreatDoor.bOf)=l:=by
 unfold bl;rw [List.map_map]
 conv=>rhs;rw [←List.map_id l]
 exact List.map_congr_left fun _ _=>rfl
theorem bOf_toList (l:List UInt8):(YtejkiefdjcfapaaGreatDoor.bOf l).toList=l:=by rw [ByteArray.toList_eq];rfl
theorem mapM_len {α β:Type} (f:α→Option β):∀ {l:List α} {ns:List β},l.mapM f=some ns→ns.length=l.length
 | [],ns,h=>by cases h;rfl
 |x::l,ns,h=>by
  rw [List.mapM_cons]at h;cases hx:f x with
  |none=>rw [hx]at h;cases h
  |some v=>
   rw [hx]at h;cases hl:l.mapM f with
   |none=>rw [hl]at h;cases h
   |some m=>rw [hl]at h;cases h;simp [mapM_len f hl]
def stepO (V:List TVersion) (S:List TStreet) (l:List UInt8) (k:Nat):Sum (Int×List TVersion×List TStreet×List TStreet) (Sum (Int×List TVersion×List TStreet×List TStreet) (TBylaw×Int×Int)):=
 match stepP ⟨V,S⟩ l with
 |some b=> .inl (((k+1:Nat):Int),b.Versions, [],b.Streets)
 |none=> .inr (.inr (⟨[], []⟩,((k+1:Nat):Int),5))
theorem stepO_some {V:List TVersion} {S:List TStreet} {l:List UInt8} {k:Nat} {b:TBylaw} (h:stepP ⟨V,S⟩ l=some b):stepO V S l k= .inl (((k+1:Nat):Int),b.Versions, [],b.Streets):=by unfold stepO;rw [h]
theorem stepO_none {V:List TVersion} {S:List TStreet} {l:List UInt8} {k:Nat} (h:stepP ⟨V,S⟩ l=none):stepO V S l k= .inr (.inr (⟨[], []⟩,((k+1:Nat):Int),5)):=by unfold stepO;rw [h]
theorem stepP_quiet {b:TBylaw} {l:List UInt8} (h:says l=false):stepP b l=some b:=by
 unfold says at h;unfold stepP;by_cases h35:l.head?=some 35
 · rw [if_pos h35]
 · rw [if_neg h35];simp [h35]at h;rw [h]
theorem stepP_says {b:TBylaw} {l:List UInt8} (h:says l=true):∃hd t,wordsL l=hd::t∧stepP b l=(if hd=wV then(numsW 11 t).map fun n=>⟨b.Versions++ [verOf n],b.Streets⟩else if hd=wS then(numsW 5 t).map fun n=>⟨b.Versions,b.Streets++ [strOf n]⟩else none):=by
 unfold says at h;simp only [Bool.and_eq_true,decide_eq_true_eq]at h;cases hw:wordsL l with
 |nil=>exact absurd hw h.1
 |cons hd t=>
  refine⟨hd,t,rfl, ?_⟩;unfold stepP;rw [if_neg h.2,hw]
theorem words_len (l:List UInt8):(wordsL l).length≤l.length+1:=Nat.le_trans (List.length_filter_le _ _) (spl_len 32 l).2
theorem rParse_step (L:List ByteArray) (pre post:List ByteArray) (x:ByteArray) (V:List TVersion) (S:List TStreet) (hl:L=pre++x::post) (hL:L.length≤9000) (hx:x.size≤8000) (hV:V.length≤pre.length) (hS:S.length≤pre.length):
 m_R01_Parse_L1 L ((pre.length:Int),V, [],S)=some (stepO V S x.data.toList pre.length):=by
 have hk:pre.length<L.length:=by rw [hl];simp
 have hi:idx L (pre.length:Int)=some x:=by rw [hl];unfold idx;simp
 have hsz:x.data.toList.length=x.size:=(Lib.size_eq x).symm;have hwl:=words_len x.data.toList;unfold m_R01_Parse_L1;simp only;rw [if_pos (by simpa using hk),hi,Option.bind_some,rSays_eq x hx,Option.bind_some,Wk (by omega)]
 cases hsay:says x.data.toList with
 |false=>
  rw [if_pos (by decide),stepO_some (stepP_quiet hsay)]
 |true=>
  obtain⟨hd,t,hw,hst⟩:=stepP_says (b:=⟨V,S⟩) hsay;rw [if_neg (by decide),rWords_eq x hx,Option.bind_some,hw];have hmap:(hd::t).map YtejkiefdjcfapaaGreatDoor.bOf=YtejkiefdjcfapaaGreatDoor.bOf hd::t.map YtejkiefdjcfapaaGreatDoor.bOf:=rfl;rw [hmap];have htl:t.length≤8001:=by rw [hw]at hwl;simp only [List.length_cons]at hwl;omega
  have hsub:sub (YtejkiefdjcfapaaGreatDoor.bOf hd::t.map YtejkiefdjcfapaaGreatDoor.bOf) (1:Int).toNat (YtejkiefdjcfapaaGreatDoor.bOf hd::t.map YtejkiefdjcfapaaGreatDoor.bOf).length=t.map YtejkiefdjcfapaaGreatDoor.bOf:=by
   unfold sub;show(t.map YtejkiefdjcfapaaGreatDoor.bOf).take _=_;exact List.take_of_length_le (by simp)
  have hg:(0:Int)≤(1:Int)∧(1:Int)≤((YtejkiefdjcfapaaGreatDoor.bOf hd::t.map YtejkiefdjcfapaaGreatDoor.bOf).length:Int):=by simp;omega
  unfold gd;rw [if_pos hg,hsub,Option.bind_some,rNumbers_eq _ (by rw [List.length_map];omega),Option.bind_some,bl_bOf];have h0:idx (YtejkiefdjcfapaaGreatDoor.bOf hd::t.map YtejkiefdjcfapaaGreatDoor.bOf) 0=some (YtejkiefdjcfapaaGreatDoor.bOf hd):=rfl;cases hm:t.mapM numW with
  |none=>
   have hno:stepP ⟨V,S⟩ x.data.toList=none:=by
    rw [hst];unfold numsW;rw [hm];simp
   rw [stepO_none hno];rfl
  |some ns=>
   have hln:=mapM_len numW hm;simp only [if_true];rw [h0,Option.bind_some,bOf_toList,ByteArray.toList_eq,ByteArray.toList_eq];by_cases hv:hd=wV
   · have e1:(hd==(⟨#[118,101,114,115,105,111,110]⟩:ByteArray).data.toList)=true:=by rw [hv];rfl
     have e2:¬((hd==(⟨#[115,116,114,101,101,116]⟩:ByteArray).data.toList)=true):=by rw [hv];decide
     rw [if_pos e1];rw [if_pos hv]at hst;by_cases h11:t.length=11
     · rw [if_pos (by simp;omega)];rw [h11]at hln;obtain⟨a0,a1,a2,a3,a4,a5,a6,a7,a8,a9,a10,rfl⟩:=list11 hln
       have hyes:stepP ⟨V,S⟩ x.data.toList=some ⟨V++ [verOf [a0,a1,a2,a3,a4,a5,a6,a7,a8,a9,a10]],S⟩:=by
        rw [hst];unfold numsW;rw [if_pos h11,hm];rfl
       rw [stepO_some hyes];show(if _ then _ else _:Option _)=_
       rw [if_pos (by simp only [List.length_singleton];omega)];rfl
     · rw [if_neg (by simp;omega),Option.bind_some,bOf_toList];rw [if_neg e2]
       have hno:stepP ⟨V,S⟩ x.data.toList=none:=by
        rw [hst];unfold numsW;rw [if_neg h11];rfl
       rw [stepO_none hno]
   · have e1:¬((hd==(⟨#[118,101,114,115,105,111,110]⟩:ByteArray).data.toList)=true):=by
      intro h;exact hv (by simpa [wV]using h)
     rw [if_neg e1,Option.bind_some,bOf_toList];rw [if_neg hv]at hst;by_cases hs:hd=wS
     · have e2:(hd==(⟨#[115,116,114,101,101,116]⟩:ByteArray).data.toList)=true:=by rw [hs];rfl
       rw [if_pos e2];rw [if_pos hs]at hst;by_cases h5:t.length=5
       · rw [if_pos (by simp;omega)];rw [h5]at hln;obtain⟨a0,a1,a2,a3,a4,rfl⟩:=list5 hln
         have hyes:stepP ⟨V,S⟩ x.data.toList=some ⟨V,S++ [strOf [a0,a1,a2,a3,a4]]⟩:=by
          rw [hst];unfold numsW;rw [if_pos h5,hm];rfl
         rw [stepO_some hyes];show(if _ then _ else _:Option _)=_
         rw [if_pos (by simp only [List.length_singleton];omega)];rfl
       · rw [if_neg (by simp;omega)]
         have hno:stepP ⟨V,S⟩ x.data.toList=none:=by
          rw [hst];unfold numsW;rw [if_neg h5];rfl
         rw [stepO_none hno]
     · have e2:¬((hd==(⟨#[115,116,114,101,101,116]⟩:ByteArray).data.toList)=true):=by
        intro h;exact hs (by simpa [wS]using h)
       rw [if_neg e2];rw [if_neg hs]at hst;rw [stepO_none hst]
theorem stepP_len {b b':TBylaw} {l:List UInt8} (h:stepP b l=some b'):b'.Versions.length≤b.Versions.length+1∧b'.Streets.length≤b.Streets.length+1:=by
 cases hs:says l with
 |false=>
  rw [stepP_quiet hs]at h;cases h;omega
 |true=>
  obtain⟨hd,t,_,hst⟩:=stepP_says (b:=b) hs;rw [hst]at h;split at h
  · cases hn:numsW 11 t with
    |none=>rw [hn]at h;cases h
    |some ns=>rw [hn]at h;cases h;simp
  · split at h
    · cases hn:numsW 5 t with
      |none=>rw [hn]at h;cases h
      |some ns=>rw [hn]at h;cases h;simp
    · cases h
theorem readL_len:∀ {l:List (List UInt8)} {i:Nat} {b b':TBylaw},readL i l b= .inl b'→b'.Versions.length≤b.Versions.length+l.length∧b'.Streets.length≤b.Streets.length+l.length
 | [],i,b,b',h=>by cases h;simp
 |x::l,i,b,b',h=>by
  unfold readL at h;cases hs:stepP b x with
  |none=>rw [hs]at h;cases h
  |some b1=>
   rw [hs]at h;have h1:=stepP_len hs;have h2:=readL_len h;simp only [List.length_cons];omega
theorem linesL_len (l:List UInt8):(linesL l).length≤l.length+1:=by
 have h:=(spl_len 10 l).2;rcases lines_or l with e|e
 · rw [←e];exact h
 · rw [e]at h;rw [List.length_append,List.length_singleton]at h;omega
theorem linesL_mem (l d:List UInt8) (h:d∈linesL l):d.length≤l.length:=by
 rcases lines_or l with e|e
 · exact spl_mem 10 l d (by rw [e];exact h)
 · exact spl_mem 10 l d (by rw [e];exact List.mem_append_left _ h)
theorem rParse_loop (L:List ByteArray) (hL:L.length≤9000) (hx:∀x∈L,x.size≤8000):loopF (m_R01_Parse_L1 L) (0, [], [], [])=some (match readL 0 (bl L) ⟨[], []⟩with
 | .inl b=> .inl ((L.length:Int),b.Versions, [],b.Streets)
 | .inr e=> .inr (⟨[], []⟩,e,5)):=by
 have hloop:=loop_list (body:=m_R01_Parse_L1 L) (E:=Sum (Int×List TVersion×List TStreet×List TStreet) (TBylaw×Int×Int)) (R:=Int) (σ:=TBylaw×Nat) L (by omega) (fun k s=>((k:Int),s.1.Versions, [],s.1.Streets)) (fun s x=>match stepP s.1 x.data.toList with|some b=> .inl (b,s.2+1)|none=> .inr ((s.2+1:Nat):Int)) (fun r=> .inr (⟨[], []⟩,r,5)) (fun s=> .inl ((L.length:Int),s.1.Versions, [],s.1.Streets))
  (fun pre s=>s.2=pre.length∧s.1.Versions.length≤pre.length∧s.1.Streets.length≤pre.length) (fun pre x post s he hP=>by
   obtain⟨⟨V,S⟩,n⟩:=s;obtain⟨hn,hV,hS⟩:=hP;simp only at hn hV hS;subst hn;have h:=rParse_step L pre post x V S he hL (hx x (by rw [he];simp)) hV hS;refine⟨?_,fun s' hs'=> ?_⟩
   · refine Eq.trans h ?_;simp only;cases hst:stepP ⟨V,S⟩ x.data.toList with
     |none=>rw [stepO_none hst]
     |some b=>rw [stepO_some hst]
   · simp only at hs';cases hst:stepP ⟨V,S⟩ x.data.toList with
     |none=>rw [hst]at hs';cases hs'
     |some b=>
      rw [hst]at hs';cases hs';have:=stepP_len hst;simp only at this;refine⟨by simp, ?_, ?_⟩
      · simp only [List.length_append,List.length_singleton];omega
      · simp only [List.length_append,List.length_singleton];omega) (fun s _=>by
   unfold m_R01_Parse_L1;simp only;rw [if_neg (by simp)]) (⟨[], []⟩,0) ⟨rfl,Nat.le_refl _,Nat.le_refl _⟩
 have hrun:∀(l:List ByteArray) (b:TBylaw) (k:Nat),runL (fun(s:TBylaw×Nat) (x:ByteArray)=>match stepP s.1 x.data.toList with|some b=>(.inl (b,s.2+1):Sum (TBylaw×Nat) Int)|none=> .inr ((s.2+1:Nat):Int)) l (b,k)=match readL k (bl l) b with
  | .inl b'=> .inl (b',k+l.length)
  | .inr e=> .inr e:=by
  intro l
  induction l with
  |nil=>intro b k;simp [runL,bl,readL]
  |cons x l ih=>
   intro b k;have e:bl (x::l)=x.data.toList::bl l:=rfl;rw [e];unfold runL readL;simp only;cases hs:stepP b x.data.toList with
   |none=>rfl
   |some b1=>
    simp only;rw [ih b1 (k+1)];cases readL (k+1) (bl l) b1 with
    |inl b'=>simp only [List.length_cons];rw [show k+1+l.length=k+(l.length+1) by omega]
    |inr e=>rfl
 rw [hrun]at hloop;have h0:((0:Int),([]:List TVersion),([]:List TStreet),([]:List TStreet))=((((0:Nat)):Int),([]:List TVersion),([]:List TStreet),([]:List TStreet)):=rfl;rw [h0];refine Eq.trans hloop ?_;cases readL 0 (bl L) ⟨[], []⟩<;>rfl
def parseV (t:List UInt8):Sum TBylaw Int:=readL 0 (spl 10 t) ⟨[], []⟩
theorem parseV_len {t:List UInt8} {b:TBylaw} (ht:t.length≤8000) (h:parseV t= .inl b):b.Versions.length≤9000∧b.Streets.length≤9000:=by
 have h1:=readL_len h;have h2:=(spl_len 10 t).2;simp only [List.length_nil]at h1;omega
open Classical in noncomputable def parseR (t:List UInt8):TBylaw×Int×Int:=match parseV t with
 | .inl b=>if VBylaw b then(b,0,0)else(⟨[], []⟩,0,13)
 | .inr e=>(⟨[], []⟩,e,5)
open Classical in theorem Parse_eq (s:ByteArray):m_bylaw_Parse s=some (if s.size≤8000 then parseR s.data.toList else(⟨[], []⟩,0,2)):=by
 have hsz:s.data.toList.length=s.size:=(Lib.size_eq s).symm;unfold m_bylaw_Parse;by_cases h:s.size≤8000
 · rw [if_neg (by simp;omega),if_pos h]
   have hr:m_bylaw_read s=some (match parseV s.data.toList with| .inl b=>(b,0,0)| .inr e=>(⟨[], []⟩,e,5)):=by
    unfold m_bylaw_read gd;rw [if_pos h];unfold linesB;rw [bl_bOf];rfl
   rw [hr,Option.bind_some];unfold parseR;cases hp:parseV s.data.toList with
   |inr e=>rfl
   |inl b=>
    have hl:=parseV_len (by omega) hp;simp only;rw [if_neg (by decide),(Check_both b (by omega) (by omega)).1,Option.bind_some];by_cases hv:VBylaw b
    · rw [if_pos hv,if_pos hv,if_neg (by decide)]
    · rw [if_neg hv,if_neg hv,if_pos (by decide)]
 · rw [if_pos (by simp;omega),if_neg h]
open Classical in theorem rParse_eq (s:ByteArray):m_R01_Parse s=some (if s.size≤8000 then parseR s.data.toList else(⟨[], []⟩,0,2)):=by
 have hsz:s.data.toList.length=s.size:=(Lib.size_eq s).symm;unfold m_R01_Parse;by_cases h:s.size≤8000
 · rw [if_neg (by simp;omega),if_pos h,rLines_eq s h,Option.bind_some];have hll:=linesL_len s.data.toList
   rw [rParse_loop _ (by rw [List.length_map];omega) (fun x hx=>by
    obtain⟨d,hd,rfl⟩:=List.mem_map.1 hx;have:=linesL_mem _ d hd;show d.length≤8000;omega),Option.bind_some,bl_bOf]
   have hpv:parseV s.data.toList=readL 0 (linesL s.data.toList) ⟨[], []⟩:=read_lines _ _;unfold parseR;rw [hpv];cases hp:readL 0 (linesL s.data.toList) ⟨[], []⟩with
   |inr e=>rfl
   |inl b=>
    have hl:=parseV_len (by omega) (hpv.trans hp);simp only;rw [(Check_both b (by omega) (by omega)).2,Option.bind_some];by_cases hv:VBylaw b
    · rw [if_pos hv,if_pos hv,if_neg (by decide)]
    · rw [if_neg hv,if_neg hv,if_pos (by decide)]
 · rw [if_pos (by simp;omega),if_neg h]
theorem parseR_len (t:List UInt8) (ht:t.length≤8000):(parseR t).1.Versions.length≤9000∧(parseR t).1.Streets.length≤9000:=by
 unfold parseR;cases hp:parseV t with
 |inr e=>simp
 |inl b=>
  have:=parseV_len ht hp;simp only;split
  · exact this
  · simp
end Go.Proofs.YtejkiefdjcfapaaGreatDoor
namespace Go.Proofs.YtejkiefdjcfapaaGreatDoor
open Go Go.Sx
set_option maxRecDepth 1000000
theorem pl_sane:m_L01_sane=some true:=by decide+kernel
end Go.Proofs.YtejkiefdjcfapaaGreatDoor
namespace Go.Proofs.YtejkiefdjcfapaaGreatDoor
open Go Go.Sx Go.Lib
open Classical
theorem idx_at {α:Type} {pre post:List α} {x:α}:idx (pre++x::post) (pre.length:Int)=some x:=by unfold idx;simp
theorem Same_bylaw (b:TBylaw) (h1:b.Versions.length≤9223372036854775807) (h2:b.Streets.length≤9223372036854775807):m_R01_SameBylaw b b=some true:=by
 unfold m_R01_SameBylaw;rw [if_neg (by simp),if_neg (by simp)]
 have hA:=loop_list (body:=m_R01_SameBylaw_L1 b b) (S:=Int) b.Versions h1 (fun n (_:Unit)=>(n:Int)) (fun s _=>(.inl s:Sum Unit Bool)) (fun r=> .inr r) (fun _=> .inl (b.Versions.length:Int)) (fun _ _=>True)
  (fun pre x post s he _=>⟨by
   have hx:idx b.Versions (pre.length:Int)=some x:=by rw [he];exact idx_at
   have hlen:b.Versions.length=pre.length+1+post.length:=by rw [he];simp;omega
   unfold m_R01_SameBylaw_L1;rw [if_pos (by simp;omega),hx,Option.bind_some,Option.bind_some,if_neg (by simp),Wk (by omega)],fun _ _=>trivial⟩)
  (fun s _=>by
   unfold m_R01_SameBylaw_L1;rw [if_neg (by simp)]) () trivial
 have hA':loopF (m_R01_SameBylaw_L1 b b) 0=_:=hA;rw [runL_foldl (fun s _=>s)]at hA';rw [hA',Option.bind_some]
 have hB:=loop_list (body:=m_R01_SameBylaw_L2 b b) (S:=Int) b.Streets h2 (fun n (_:Unit)=>(n:Int)) (fun s _=>(.inl s:Sum Unit Bool)) (fun r=> .inr r) (fun _=> .inl (b.Streets.length:Int)) (fun _ _=>True)
  (fun pre x post s he _=>⟨by
   have hx:idx b.Streets (pre.length:Int)=some x:=by rw [he];exact idx_at
   have hlen:b.Streets.length=pre.length+1+post.length:=by rw [he];simp;omega
   unfold m_R01_SameBylaw_L2;rw [if_pos (by simp;omega),hx,Option.bind_some,Option.bind_some,if_neg (by simp),Wk (by omega)],fun _ _=>trivial⟩)
  (fun s _=>by
   unfold m_R01_SameBylaw_L2;rw [if_neg (by simp)]) () trivial
 have hB':loopF (m_R01_SameBylaw_L2 b b) 0=_:=hB;rw [runL_foldl (fun s _=>s)]at hB';show(Option.bind (loopF (m_R01_SameBylaw_L2 b b) 0) _)=_;rw [hB',Option.bind_some]
theorem parse_print (b:TBylaw) (h:VBylaw b):parseR (printL b)=(b,0,0):=by
 unfold parseR parseV;rw [read_print b h.small.1 h.small.2.1];simp only;rw [if_pos h]
theorem texts_all (b:TBylaw) (text:ByteArray) (h1:b.Versions.length≤9223372036854775807) (h2:b.Streets.length≤9223372036854775807):m_L01_BylawTexts b text=some true:=by
 have hlen:∀r:TBylaw×Int×Int,r=(if text.size≤8000 then parseR text.data.toList else(⟨[], []⟩,0,2))→r.1.Versions.length≤9000∧r.1.Streets.length≤9000:=fun r hr=>by
  rw [hr];by_cases h:text.size≤8000
  · rw [if_pos h];exact parseR_len _ (by rw [←Lib.size_eq];exact h)
  · rw [if_neg h];simp
 have hp1:=Parse_eq text;have hp2:=rParse_eq text;obtain⟨⟨d,n,g⟩,hr⟩:∃r:TBylaw×Int×Int,r=(if text.size≤8000 then parseR text.data.toList else(⟨[], []⟩,0,2)):=⟨_,rfl⟩
 have hl:=hlen _ hr;rw [←hr]at hp1 hp2;simp only at hl;have hq1:=Print_eq b h1 h2;have hq2:=rPrint_eq b h1 h2;have hsd:=Same_bylaw d (by omega) (by omega);by_cases hv:VBylaw b
 · rw [if_pos hv]at hq1 hq2;have hs:=hv.small;have hpl:=print_len b hs.1 hs.2.1;have hvl:=hv.vlen;have hsl:=hv.slen;have hsz:(⟨(printL b).toArray⟩:ByteArray).size=(printL b).length:=rfl;have hp3:=Parse_eq (⟨(printL b).toArray⟩:ByteArray);have e:(⟨(printL b).toArray⟩:ByteArray).data.toList=printL b:=rfl;rw [if_pos (by rw [hsz];omega),e,parse_print b hv]at hp3;unfold m_L01_BylawTexts;rw [hq1,hq2,hp1,hp2];show(if _ then _ else _:Option Bool)=_
   rw [if_neg (by simp),if_neg (by decide),hsd];show(if _ then _ else _:Option Bool)=_
   rw [if_neg (by simp),if_neg (by simp),if_neg (by decide),hp3];show Option.bind (m_R01_SameBylaw b b) _=_;rw [Same_bylaw b h1 h2,pl_sane];rfl
 · rw [if_neg hv]at hq1 hq2;unfold m_L01_BylawTexts;rw [hq1,hq2,hp1,hp2];show(if _ then _ else _:Option Bool)=_
   rw [if_neg (by simp),if_neg (by decide),hsd];show(if _ then _ else _:Option Bool)=_
   rw [if_neg (by simp),if_neg (by simp),if_pos (by decide),pl_sane];rfl
theorem pl_BylawTexts (x0:TBylaw) (x1:ByteArray) (h0:TBylaw.G x0) (_h1:x1.size≤reachBytes):m_L01_BylawTexts x0 x1=some true:=by
 have h2:=h0.1.2.1;have h3:=h0.2.2.1;unfold maxLen at h2 h3;exact texts_all x0 x1 (by omega) (by omega)
end Go.Proofs.YtejkiefdjcfapaaGreatDoor
