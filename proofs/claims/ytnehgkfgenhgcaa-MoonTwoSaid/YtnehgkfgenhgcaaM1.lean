/- What may be read at the types of the statement's parameters; plain facts. -/
import Derived.Test.YtnehgkfgenhgcaaL1
set_option linter.unusedVariables false
set_option linter.unusedSimpArgs false
namespace Go.Proofs.Ytnehgkfgenhgcaa
open Go Go.RowKit Go.Sx
theorem op_54:Opens Try.prog 54 (fun(x:(Int×Int×Int×Int))=> [DI x.1,DI x.2.1,DI x.2.2.1,DI x.2.2.2]) (fun x:(Int×Int×Int×Int)=>(InK .i64 x.1∧InK .i64 x.2.1∧InK .i64 x.2.2.1∧InK .i64 x.2.2.2)):=
 (Opens.arr Try.underlying54 (OpensA.cons (s:=1) (Opens.int Try.underlying3) (OpensA.cons (s:=1) (Opens.int Try.underlying3) (OpensA.cons (s:=1) (Opens.int Try.underlying3) (OpensA.last (s:=1) (Opens.int Try.underlying3) rfl (by kernel_rfl) rfl) rfl (by kernel_rfl)) rfl (by kernel_rfl)) rfl (by kernel_rfl)) (by kernel_rfl)).iso (fun x=>x) (fun _=>rfl) (fun _ h=>h)
theorem op_23:Opens Try.prog 23 (fun l:(List (Int×Int×Int×Int))=> [.lst 4 l.length (l.flatMap (fun(x:(Int×Int×Int×Int))=> [DI x.1,DI x.2.1,DI x.2.2.1,DI x.2.2.2]))]) (fun l=>(l.length*32≤reachBytes∧l.length≤maxLen∧∀y:(Int×Int×Int×Int),y∈l→(InK .i64 y.1∧InK .i64 y.2.1∧InK .i64 y.2.2.1∧InK .i64 y.2.2.2))):=
 Opens.slice Try.underlying23 op_54 (by kernel_rfl) (by kernel_rfl) (fun _=>rfl) (fun _=>rfl) (by decide)
theorem op_22:Opens Try.prog 22 (fun l:(List (List (Int×Int×Int×Int)))=> [.lst 1 l.length (l.flatMap (fun(x:(List (Int×Int×Int×Int)))=> [lD 4 x (fun(x:(Int×Int×Int×Int))=> [DI x.1,DI x.2.1,DI x.2.2.1,DI x.2.2.2])]))]) (fun l=>(l.length*24≤reachBytes∧l.length≤maxLen∧∀y:(List (Int×Int×Int×Int)),y∈l→(y.length*32≤reachBytes∧y.length≤maxLen∧∀yy:(Int×Int×Int×Int),yy∈y→(InK .i64 yy.1∧InK .i64 yy.2.1∧InK .i64 yy.2.2.1∧InK .i64 yy.2.2.2)))):=
 Opens.slice Try.underlying22 op_23 (by kernel_rfl) (by kernel_rfl) (fun _=>rfl) (fun _=>rfl) (by decide)
theorem op_57:Opens Try.prog 57 (fun(x:(Int×Int×Int))=> [DI x.1,DI x.2.1,DI x.2.2]) (fun x:(Int×Int×Int)=>(InK .i64 x.1∧InK .i64 x.2.1∧InK .i64 x.2.2)):=
 (Opens.arr Try.underlying57 (OpensA.cons (s:=1) (Opens.int Try.underlying3) (OpensA.cons (s:=1) (Opens.int Try.underlying3) (OpensA.last (s:=1) (Opens.int Try.underlying3) rfl (by kernel_rfl) rfl) rfl (by kernel_rfl)) rfl (by kernel_rfl)) (by kernel_rfl)).iso (fun x=>x) (fun _=>rfl) (fun _ h=>h)
theorem op_24:Opens Try.prog 24 (fun l:(List (Int×Int×Int))=> [.lst 3 l.length (l.flatMap (fun(x:(Int×Int×Int))=> [DI x.1,DI x.2.1,DI x.2.2]))]) (fun l=>(l.length*24≤reachBytes∧l.length≤maxLen∧∀y:(Int×Int×Int),y∈l→(InK .i64 y.1∧InK .i64 y.2.1∧InK .i64 y.2.2))):=
 Opens.slice Try.underlying24 op_57 (by kernel_rfl) (by kernel_rfl) (fun _=>rfl) (fun _=>rfl) (by decide)
def TRaw.G (x:TRaw):Prop:=(x.Rows.length*24≤reachBytes∧x.Rows.length≤maxLen∧∀y:(List (Int×Int×Int×Int)),y∈x.Rows→(y.length*32≤reachBytes∧y.length≤maxLen∧∀yy:(Int×Int×Int×Int),yy∈y→(InK .i64 yy.1∧InK .i64 yy.2.1∧InK .i64 yy.2.2.1∧InK .i64 yy.2.2.2)))∧(x.Sheets.length*32≤reachBytes∧x.Sheets.length≤maxLen∧∀y:(Int×Int×Int×Int),y∈x.Sheets→(InK .i64 y.1∧InK .i64 y.2.1∧InK .i64 y.2.2.1∧InK .i64 y.2.2.2))∧(x.Roofs.length*24≤reachBytes∧x.Roofs.length≤maxLen∧∀y:(Int×Int×Int),y∈x.Roofs→(InK .i64 y.1∧InK .i64 y.2.1∧InK .i64 y.2.2))∧(x.Sightings.length*32≤reachBytes∧x.Sightings.length≤maxLen∧∀y:(Int×Int×Int×Int),y∈x.Sightings→(InK .i64 y.1∧InK .i64 y.2.1∧InK .i64 y.2.2.1∧InK .i64 y.2.2.2))∧InK .i64 x.Off
theorem op_26:Opens Try.prog 26 TRaw.c TRaw.G:=
 (Opens.struct Try.underlying26 (OpensF.cons (s:=1) op_22 (OpensF.cons (s:=1) op_23 (OpensF.cons (s:=1) op_24 (OpensF.cons (s:=1) op_23 (OpensF.last (s:=1) (Opens.int Try.underlying3) rfl (by kernel_rfl) rfl) rfl (by kernel_rfl)) rfl (by kernel_rfl)) rfl (by kernel_rfl)) rfl (by kernel_rfl)) (by kernel_rfl)).iso (fun x=>(⟨x.1,x.2.1,x.2.2.1,x.2.2.2.1,x.2.2.2.2⟩:TRaw)) (fun _=>rfl) (fun _ h=>h)
theorem op_27:Opens Try.prog 27 (fun l:(List Int)=> [.lst 1 l.length (l.flatMap cI)]) (fun l=>(l.length*8≤reachBytes∧l.length≤maxLen∧∀y:Int,y∈l→InK .i64 y)):=
 Opens.slice Try.underlying27 (Opens.int Try.underlying3) (by kernel_rfl) (by kernel_rfl) (fun _=>rfl) (fun _=>rfl) (by decide)
end Go.Proofs.Ytnehgkfgenhgcaa
namespace Go.Proofs.Ytnehgkfgenhgcaa
open Go Go.Sx
open Classical
theorem W_id {z:Int} (h: -9223372036854775808≤z∧z≤9223372036854775807):W z=z:=w64 h
theorem gcdO:∀(n:Nat) (a b:Int),b.natAbs<n→∃g:Int,loopO m_moon_gcd_L1 n (a,b)=some (g,0)∧g.natAbs=Nat.gcd a.natAbs b.natAbs
 |0,a,b,h=>by omega
 |n+1,a,b,h=>by
  by_cases hb:b=0
  · subst hb
    exact⟨a,by simp [loopO,m_moon_gcd_L1],by simp⟩
  · have hlt:(a.tmod b).natAbs<b.natAbs:=by
     rw [Int.natAbs_tmod]
     exact Nat.mod_lt _ (by omega)
    obtain⟨g,h1,h2⟩:=gcdO n b (a.tmod b) (by omega)
    refine⟨g, ?_, ?_⟩
    · simp only [loopO,m_moon_gcd_L1]
      simp [hb,gd,h1]
    · rw [h2,Int.natAbs_tmod,Nat.gcd_comm,←Nat.gcd_rec,Nat.gcd_comm]
theorem gcdF (a b:Int) (h:b.natAbs<FUEL):∃g:Int,loopF m_moon_gcd_L1 (a,b)=some (g,0)∧g.natAbs=Nat.gcd a.natAbs b.natAbs:=gcdO FUEL a b h
theorem frac_L1:m_R02_frac_L1=m_moon_gcd_L1:=rfl
def rd (n d:Int):TFrac:=⟨n / (Nat.gcd n.natAbs d.natAbs:Nat),d / (Nat.gcd n.natAbs d.natAbs:Nat)⟩
abbrev I64 (z:Int):Prop:= -9223372036854775808<z∧z≤9223372036854775807
theorem FUEL_lt {z:Int} (h:I64 z):z.natAbs<FUEL:=by unfold FUEL;omega
theorem gcd_pos {n d:Int} (hd:0<d):0<Nat.gcd n.natAbs d.natAbs:=Nat.gcd_pos_of_pos_right _ (by omega)
theorem gcd_dvd_n (n d:Int):((Nat.gcd n.natAbs d.natAbs:Nat):Int)∣n:=by
 rw [Int.ofNat_dvd_left];exact Nat.gcd_dvd_left _ _
theorem gcd_dvd_d (n d:Int):((Nat.gcd n.natAbs d.natAbs:Nat):Int)∣d:=by
 rw [Int.ofNat_dvd_left];exact Nat.gcd_dvd_right _ _
theorem gcd_le {n d:Int} (hd:0<d):((Nat.gcd n.natAbs d.natAbs:Nat):Int)≤d:=by
 have:=Nat.le_of_dvd (by omega) (Nat.gcd_dvd_right n.natAbs d.natAbs);omega
theorem div_bd {z g:Int} (hz:I64 z) (hg:0<g):I64 (z.tdiv g)∧(g∣z→z.tdiv g=z / g):=by
 refine⟨?_,fun h=> ?_⟩
 · have h1:(z.tdiv g).natAbs≤z.natAbs:=by rw [Int.natAbs_tdiv];exact Nat.div_le_self _ _
   omega
 · obtain⟨k,rfl⟩:=h
   rw [Int.mul_tdiv_cancel_left _ (by omega),Int.mul_ediv_cancel_left _ (by omega)]
theorem least_eq {n d:Int} (hn:I64 n) (hd:0<d) (hd2:I64 d):m_moon_least n d=some (rd n d):=by
 obtain⟨g,h1,h2⟩:=gcdF n d (FUEL_lt hd2)
 have hp:=gcd_pos (n:=n) hd
 have hle:=gcd_le (n:=n) hd
 have hg:(if W (0-g)>g then W (0-g)else g)=((Nat.gcd n.natAbs d.natAbs:Nat):Int):=by
  have:W (0-g)=0-g:=W_id (by omega)
  rw [this];split<;>omega
 unfold m_moon_least m_moon_gcd
 rw [h1]
 simp only [Option.bind_some,hg]
 have hne:((Nat.gcd n.natAbs d.natAbs:Nat):Int)≠0:=by omega
 simp only [gd,if_pos hne]
 obtain⟨b1,e1⟩:=div_bd hn (g:=((Nat.gcd n.natAbs d.natAbs:Nat):Int)) (by omega)
 obtain⟨b2,e2⟩:=div_bd hd2 (g:=((Nat.gcd n.natAbs d.natAbs:Nat):Int)) (by omega)
 rw [W_id (by omega),W_id (by omega),e1 (gcd_dvd_n _ _),e2 (gcd_dvd_d _ _)]
 rfl
theorem reduced_eq {x:TFrac} (hn:I64 x.Num) (hd:0<x.Den) (hd2:I64 x.Den):m_moon_reduced x=some (rd x.Num x.Den):=by
 unfold m_moon_reduced;rw [least_eq hn hd hd2];rfl
theorem frac_eq {n d:Int} (hn:I64 n) (hd:0<d) (hd2:I64 d):m_R02_frac n d=some (rd n d):=by
 have hp:=gcd_pos (n:=n) hd
 have hle:=gcd_le (n:=n) hd
 have key:∀m:Int,I64 m→m.natAbs=n.natAbs→0≤m→∃g:Int,loopF m_R02_frac_L1 (m,d)=some (g,0)∧g=((Nat.gcd n.natAbs d.natAbs:Nat):Int):=by
  intro m hm he h0
  rw [frac_L1]
  --the loop's result is not negative:its numbers are not
  have pos:∀(k:Nat) (a b:Int),0≤a→0≤b→∀g,loopO m_moon_gcd_L1 k (a,b)=some (g,0)→0≤g:=by
   intro k
   induction k with
   |zero=>intro a b _ _ g h;cases h
   |succ k ih=>
    intro a b ha hb g h
    simp only [loopO,m_moon_gcd_L1]at h
    by_cases hb0:b=0
    · subst hb0;simp at h;omega
    · simp [hb0,gd]at h
      exact ih b (a.tmod b) hb (Int.tmod_nonneg _ ha) g h
  obtain⟨g,h1,h2⟩:=gcdF m d (FUEL_lt hd2)
  have:=pos FUEL m d h0 (by omega) g h1
  exact⟨g,h1,by rw [he]at h2;omega⟩
 have hne:((Nat.gcd n.natAbs d.natAbs:Nat):Int)≠0:=by omega
 have hb0:(((Nat.gcd n.natAbs d.natAbs:Nat):Int)==0)=false:=by simpa using hne
 obtain⟨b1,e1⟩:=div_bd hn (g:=((Nat.gcd n.natAbs d.natAbs:Nat):Int)) (by omega)
 obtain⟨b2,e2⟩:=div_bd hd2 (g:=((Nat.gcd n.natAbs d.natAbs:Nat):Int)) (by omega)
 unfold m_R02_frac
 rw [if_neg (by simp;omega)]
 by_cases hneg:n<0
 · rw [if_pos (by simpa using hneg)]
   have hw:W (0-n)=0-n:=W_id (by omega)
   obtain⟨g,h1,rfl⟩:=key (0-n) (by omega) (by omega) (by omega)
   rw [hw,h1]
   simp only [Option.bind_some,hb0,gd,if_pos hne]
   rw [if_neg (by simp),W_id (by omega),W_id (by omega),e1 (gcd_dvd_n _ _),e2 (gcd_dvd_d _ _)]
   rfl
 · rw [if_neg (by simpa using hneg)]
   obtain⟨g,h1,rfl⟩:=key n hn rfl (by omega)
   rw [h1]
   simp only [Option.bind_some,hb0,gd,if_pos hne]
   rw [if_neg (by simp),W_id (by omega),W_id (by omega),e1 (gcd_dvd_n _ _),e2 (gcd_dvd_d _ _)]
   rfl
theorem rd_spec {n d:Int} (hd:0<d):∃g:Int,0<g∧n=g*(rd n d).Num∧d=g*(rd n d).Den∧0<(rd n d).Den:=by
 have hp:=gcd_pos (n:=n) hd
 refine⟨((Nat.gcd n.natAbs d.natAbs:Nat):Int),by omega, ?_, ?_, ?_⟩
 · exact(Int.mul_ediv_cancel' (gcd_dvd_n n d)).symm
 · exact(Int.mul_ediv_cancel' (gcd_dvd_d n d)).symm
 · have h1:d=((Nat.gcd n.natAbs d.natAbs:Nat):Int)*(rd n d).Den:=(Int.mul_ediv_cancel' (gcd_dvd_d n d)).symm
   have h2:0<((Nat.gcd n.natAbs d.natAbs:Nat):Int)*(rd n d).Den:=by omega
   exact Int.pos_of_mul_pos_right h2 (by omega)|>fun h=>h
def cmpI (a b:Int):Int:=if a<b then-1 else if a>b then 1 else 0
def fcmp (x y:TFrac):Int:=cmpI (x.Num*y.Den) (y.Num*x.Den)
theorem cmp_eq (a b:Int):m_cmp_Compare_int a b=some (cmpI a b):=by
 unfold m_cmp_Compare_int m_cmp_isNaN_int cmpI
 simp
 split<;>simp_all
 split<;>simp_all
structure Sm (x:TFrac):Prop where
 den:0<x.Den
 den2:x.Den≤20000000
 lo: -7200000000≤x.Num
 hi:x.Num≤7200000000
theorem Sm.I {x:TFrac} (h:Sm x):I64 x.Num∧I64 x.Den:=by obtain⟨_,_,_,_⟩:=h;omega
theorem mul_bd {a b A B:Int} (ha: -A≤a∧a≤A) (hb:0≤b∧b≤B): -(A*B)≤a*b∧a*b≤A*B:=by
 have hA:0≤A:=by omega
 have h1:a*b≤A*b:=Int.mul_le_mul_of_nonneg_right ha.2 hb.1
 have h2:A*b≤A*B:=Int.mul_le_mul_of_nonneg_left hb.2 hA
 have h3:(-A)*b≤a*b:=Int.mul_le_mul_of_nonneg_right ha.1 hb.1
 rw [Int.neg_mul]at h3
 omega
theorem Sm.prod {x y:TFrac} (hx:Sm x) (hy:Sm y):I64 (x.Num*y.Den):=by
 have:=mul_bd (a:=x.Num) (b:=y.Den) (A:=7200000000) (B:=20000000) ⟨hx.lo,hx.hi⟩ ⟨by have:=hy.den;omega,hy.den2⟩
 omega
theorem compare_eq {x y:TFrac} (hx:Sm x) (hy:Sm y):m_moon_compare x y=some (fcmp x y):=by
 unfold m_moon_compare
 rw [reduced_eq hx.I.1 hx.den hx.I.2,reduced_eq hy.I.1 hy.den hy.I.2]
 have p1:=hx.prod hy
 have p2:=hy.prod hx
 simp only [Option.bind_some]
 split
 · rename_i h
   simp only [Bool.and_eq_true,beq_iff_eq]at h
   obtain⟨g,_,h1,h2,_⟩:=rd_spec (n:=x.Num) hx.den
   obtain⟨k,_,h3,h4,_⟩:=rd_spec (n:=y.Num) hy.den
   clear p1 p2
   generalize rd x.Num x.Den=p at*
   generalize rd y.Num y.Den=q at*
   have:x.Num*y.Den=y.Num*x.Den:=by
    rw [h1,h2,h3,h4,h.1,h.2];ac_rfl
   unfold fcmp cmpI
   rw [this];simp
 · rw [W_id (by omega),W_id (by omega),cmp_eq];rfl
theorem sign_eq {x y:TFrac} (hx:Sm x) (hy:Sm y):m_R02_sign x y=some (fcmp x y):=by
 have p1:=hx.prod hy
 have p2:=hy.prod hx
 unfold m_R02_sign fcmp cmpI
 rw [W_id (by omega),W_id (by omega)]
 split<;>simp_all
 split<;>simp_all
theorem fcmp_anti (x y:TFrac):fcmp y x= -fcmp x y:=by
 unfold fcmp cmpI;split<;>split<;>(try split)<;>omega
theorem fcmp_le {x y:TFrac}:fcmp x y≤0↔x.Num*y.Den≤y.Num*x.Den:=by unfold fcmp cmpI;split<;>(try split)<;>omega
theorem fcmp_lt {x y:TFrac}:fcmp x y<0↔x.Num*y.Den<y.Num*x.Den:=by unfold fcmp cmpI;split<;>(try split)<;>omega
def vf (x:TFrac) (B:Int):Bool:=decide (1≤x.Den)&&decide (x.Den≤B)&&(decide (-(360*x.Den)≤x.Num)&&decide (x.Num≤360*x.Den))
theorem vf_iff {x:TFrac} {B:Int}:vf x B=true↔1≤x.Den∧x.Den≤B∧-(360*x.Den)≤x.Num∧x.Num≤360*x.Den:=by unfold vf;simp [and_assoc]
theorem isFrac_eq (x:TFrac) {B:Int} (hB:B≤20000000):m_moon_isFrac x B=some (vf x B):=by
 unfold m_moon_isFrac m_moon_within vf
 by_cases h1:1≤x.Den
 · by_cases h2:x.Den≤B
   · simp only [h1,h2,decide_true,if_true,Option.bind_some,Bool.true_and,Bool.and_self]
     rw [W_id (by omega),W_id (by omega)]
     by_cases h3: -(360*x.Den)≤x.Num
     · have:(-360)*x.Den≤x.Num:=by omega
       simp [this,h3]
     · have:¬(-360)*x.Den≤x.Num:=by omega
       simp [this,h3]
   · simp [h1,h2]
 · simp [h1]
theorem vf_Sm {x:TFrac} {B:Int} (hB:B≤20000000) (h:vf x B=true):Sm x:=by
 obtain⟨h1,h2,h3,h4⟩:=vf_iff.1 h
 exact⟨by omega,by omega,by omega,by omega⟩
theorem vf_rd {x:TFrac} {B:Int} (h:vf x B=true):vf (rd x.Num x.Den) B=true:=by
 obtain⟨h1,h2,h3,h4⟩:=vf_iff.1 h
 obtain⟨g,hg,e1,e2,hp⟩:=rd_spec (n:=x.Num) (d:=x.Den) (by omega)
 generalize rd x.Num x.Den=p at*
 refine vf_iff.2 ⟨by omega, ?_, ?_, ?_⟩
 · have:p.Den≤g*p.Den:=by
    have:=Int.mul_le_mul_of_nonneg_right (show(1:Int)≤g by omega) (Int.le_of_lt hp);omega
   omega
 · rw [e1,e2]at h3
   refine Int.le_of_mul_le_mul_left ?_ hg
   have:g* -(360*p.Den)= -(360*(g*p.Den)):=by rw [Int.mul_neg];congr 1;ac_rfl
   rw [this,←e1,←e2];rw [e1,e2];exact h3
 · rw [e1,e2]at h4
   refine Int.le_of_mul_le_mul_left ?_ hg
   have:g*(360*p.Den)=360*(g*p.Den):=by ac_rfl
   rw [this];exact h4
theorem loopF_rule {S E:Type} {body:S→Option (Sum S E)} (P:S→Prop) (μ:S→Nat) (Q:E→Prop) (h:∀s,P s→(∃e,body s=some (.inr e)∧Q e)∨(∃s',body s=some (.inl s')∧P s'∧μ s'<μ s)) (s0:S) (h0:P s0) (hf:μ s0<FUEL):∃e,loopF body s0=some e∧Q e:=by
 have key:∀(n:Nat) (s:S),P s→μ s<n→∃e,loopO body n s=some e∧Q e:=by
  intro n
  induction n with
  |zero=>intro s _ hn;omega
  |succ n ih=>
   intro s hs hn
   rcases h s hs with⟨e,h1,h2⟩|⟨s',h1,h2,h3⟩
   · exact⟨e,by simp only [loopO,h1],h2⟩
   · obtain⟨e,h4,h5⟩:=ih s' h2 (by omega)
     exact⟨e,by simp only [loopO,h1,h4],h5⟩
 exact key FUEL s0 h0 hf
theorem lt_FUEL {n:Nat} (h:n≤9223372036854775807):n<FUEL:=by unfold FUEL;omega
theorem idx_nat {α:Type} {l:List α} {k:Nat} (h:k<l.length):idx l (k:Int)=some l[k]:=by
 unfold idx;simp [h]
theorem idx_nat1 {α:Type} {l:List α} {k:Nat} (h:k+1<l.length):idx l ((k:Int)+1)=some l[k+1]:=by
 have:=idx_nat h;simpa using this
theorem W_s {k:Nat} (h:k<9223372036854775807):W ((k:Int)+1)=(k:Int)+1:=W_id (by omega)
theorem within_eq (n lo hi:Int):m_moon_within n lo hi=some (decide (lo≤n)&&decide (n≤hi)):=by
 unfold m_moon_within;by_cases h:lo≤n<;>simp [h]
structure VRow (r:TRow):Prop where
 h:vf r.Height 100=true
 lo: -(90*r.Height.Den)≤r.Height.Num
 hi:r.Height.Num≤90*r.Height.Den
 b:vf r.Bearing 100=true
 b0:0≤r.Bearing.Num
 b1:r.Bearing.Num<360*r.Bearing.Den
theorem isRow_eq (r:TRow):m_moon_isRow r=some (decide (VRow r)):=by
 unfold m_moon_isRow
 rw [isFrac_eq _ (by omega)]
 by_cases h1:vf r.Height 100=true
 · have hv:=vf_iff.1 h1
   simp only [Option.bind_some,h1,if_true]
   rw [within_eq,W_id (by omega),W_id (by omega)]
   by_cases h2: -90*r.Height.Den≤r.Height.Num∧r.Height.Num≤90*r.Height.Den
   · simp only [h2.1,h2.2,decide_true,Bool.and_self,Option.bind_some,if_true]
     rw [isFrac_eq _ (by omega)]
     by_cases h3:vf r.Bearing 100=true
     · have hb:=vf_iff.1 h3
       simp only [Option.bind_some,h3,if_true]
       rw [W_id (by omega)]
       by_cases h4:0≤r.Bearing.Num
       · simp only [h4,decide_true,if_true]
         congr 2
         simp only [eq_iff_iff]
         exact⟨fun h=>⟨h1,by omega,h2.2,h3,h4,h⟩,fun h=>h.b1⟩
       · have:¬VRow r:=fun h=>h4 h.b0
         simp [h4,this]
     · have:¬VRow r:=fun h=>h3 h.b
       simp [h3,this]
   · have:¬VRow r:=fun h=>h2 ⟨by have:=h.lo;omega,h.hi⟩
     have h3:(decide (-90*r.Height.Den≤r.Height.Num)&&decide (r.Height.Num≤90*r.Height.Den))=false:=by
      rw [←Bool.not_eq_true];simpa using h2
     simp [h3,this]
 · have:¬VRow r:=fun h=>h1 h.h
   simp [h1,this]
def okRow (l:List TRow) (k:Nat):Prop:=∃r,l[k]?=some r∧VRow r∧∀p,0<k→l[k-1]?=some p→p.Minute<r.Minute∧fcmp p.Bearing r.Bearing≤0
structure VSheet (s:TSheet):Prop where
 src:1≤s.Source∧s.Source≤99999
 night:0≤s.Night∧s.Night≤100000
 known:0≤s.Known∧s.Known≤100000
 until_:s.Until=0∨(s.Known<s.Until∧s.Until≤100000)
 len:2≤s.Rows.length∧s.Rows.length≤12
 off:vf s.Off 100=true
 off0:0≤s.Off.Num
 off1:s.Off.Num≤90*s.Off.Den
 light:0≤s.Light.Lo∧s.Light.Lo≤s.Light.Hi∧s.Light.Hi≤1000
 rows:∀k,k<s.Rows.length→okRow s.Rows k
 first:∀r,s.Rows[0]?=some r→r.Minute=0
 last:∀r,s.Rows[s.Rows.length-1]?=some r→r.Minute=1439
theorem VRow.smb {r:TRow} (h:VRow r):Sm r.Bearing:=vf_Sm (by omega) h.b
theorem rows_loop (s:TSheet) (hl:s.Rows.length≤12):∃e,loopF (m_moon_CheckSheet_L1 s) 0=some e∧((e= .inl (s.Rows.length:Int)∧∀k,k<s.Rows.length→okRow s.Rows k)∨(e= .inr 21∧∃k,k<s.Rows.length∧¬okRow s.Rows k)):=by
 refine loopF_rule (fun i:Int=>∃k:Nat,i=k∧k≤s.Rows.length∧∀j,j<k→okRow s.Rows j) (fun i:Int=>s.Rows.length-i.toNat) _ ?_ 0 ⟨0,rfl,by omega,by omega⟩ (lt_FUEL (by omega))
 rintro i ⟨k,rfl,hk,hok⟩
 unfold m_moon_CheckSheet_L1
 by_cases hlt:k<s.Rows.length
 · have h1:(k:Int)<(s.Rows.length:Int):=by omega
   simp only [h1,decide_true,if_true,idx_nat hlt,Option.bind_some,isRow_eq]
   by_cases hv:VRow s.Rows[k]
   · simp only [hv,decide_true,Bool.not_true,Bool.false_eq_true,if_false]
     by_cases h0:0<k
     · have h2:(k:Int)>0:=by omega
       have hw:W ((k:Int)-1)=((k-1:Nat):Int):=by rw [W_id (by omega)];omega
       have hk1:k-1<s.Rows.length:=by omega
       simp only [h2,decide_true,if_true,hw,idx_nat hk1,Option.bind_some]
       by_cases hm:s.Rows[k-1].Minute≥s.Rows[k].Minute
       · left
         refine⟨.inr 21,by simp [hm], .inr ⟨rfl,k,hlt,fun⟨r,e1,_,e2⟩=> ?_⟩⟩
         rw [List.getElem?_eq_getElem hlt]at e1;cases e1
         have:=(e2 _ h0 (List.getElem?_eq_getElem hk1)).1;omega
       · obtain⟨p,e1,e2,_⟩:=hok (k-1) (by omega)
         rw [List.getElem?_eq_getElem hk1]at e1;cases e1
         simp only [hm,decide_false,Bool.false_eq_true,if_false]
         rw [compare_eq e2.smb hv.smb,Option.bind_some]
         by_cases hc:fcmp s.Rows[k-1].Bearing s.Rows[k].Bearing>0
         · left
           refine⟨.inr 21,by simp [hc], .inr ⟨rfl,k,hlt,fun⟨r,e1,_,e2⟩=> ?_⟩⟩
           rw [List.getElem?_eq_getElem hlt]at e1;cases e1
           have:=(e2 _ h0 (List.getElem?_eq_getElem hk1)).2;omega
         · right
           refine⟨W ((k:Int)+1),by simp [hc],⟨k+1,by rw [W_s (by omega)];rfl,by omega,fun j hj=> ?_⟩,by rw [W_s (by omega)];omega⟩
           by_cases e:j=k
           · subst e
             refine⟨_,List.getElem?_eq_getElem hlt,hv,fun p hp e3=> ?_⟩
             rw [List.getElem?_eq_getElem hk1]at e3;cases e3
             exact⟨by omega,by omega⟩
           · exact hok j (by omega)
     · right
       have hk0:(decide ((k:Int)>0))=false:=by simp;omega
       refine⟨W ((k:Int)+1),by rw [hk0];simp,⟨k+1,by rw [W_s (by omega)];rfl,by omega,fun j hj=> ?_⟩,by rw [W_s (by omega)];omega⟩
       obtain rfl:j=k:=by omega
       exact⟨_,List.getElem?_eq_getElem hlt,hv,fun p hp=>by omega⟩
   · left
     refine⟨.inr 21,by simp [hv], .inr ⟨rfl,k,hlt,fun⟨r,e1,e2,_⟩=> ?_⟩⟩
     rw [List.getElem?_eq_getElem hlt]at e1;cases e1;exact hv e2
 · left
   have h1:¬(k:Int)<(s.Rows.length:Int):=by omega
   obtain rfl:k=s.Rows.length:=by omega
   exact⟨.inl _,by simp, .inl ⟨rfl,hok⟩⟩
theorem lasts_eq (k u:Int):m_moon_lasts k u=some (decide ((0≤k∧k≤100000)∧(u=0∨(k<u∧u≤100000)))):=by
 unfold m_moon_lasts m_moon_isNight
 rw [within_eq]
 by_cases h0:0≤k∧k≤100000
 · by_cases h1:u=0
   · simp [h0,h1]
   · by_cases h2:k<u
     · rw [within_eq]
       have:0≤u:=by omega
       by_cases h3:u≤100000<;>simp [h0,h1,h2,h3,this]
     · simp [h0,h1,h2]
 · have:(decide (0≤k)&&decide (k≤100000))=false:=by rw [←Bool.not_eq_true];simpa using h0
   simp [this]
   try (intro a b;exact absurd ⟨a,b⟩ h0)
theorem band {p q:Prop} [Decidable p] [Decidable q]:(decide p&&decide q)=decide (p∧q):=(Bool.decide_and p q).symm
theorem CheckSheet_eq (s:TSheet):m_moon_CheckSheet s=some (if VSheet s then 0 else 21):=by
 have no:∀ {P:Prop},(VSheet s→P)→¬P→some (21:Int)=some (if VSheet s then 0 else 21):=fun h hn=>by
  rw [if_neg fun hv=>hn (h hv)]
 unfold m_moon_CheckSheet m_moon_isNight
 simp only [within_eq,band,lasts_eq,Option.bind_some]
 by_cases h1:1≤s.Source∧s.Source≤99999
 rotate_left
 · simp only [h1,decide_false,Bool.not_false,if_true];exact no (fun h=>h.src) h1
 simp only [h1,and_self,decide_true,Bool.not_true,Bool.false_eq_true,if_false]
 by_cases h2:0≤s.Night∧s.Night≤100000
 rotate_left
 · simp only [h2,decide_false,Bool.not_false,if_true];exact no (fun h=>h.night) h2
 simp only [h2,and_self,decide_true,Bool.not_true,Bool.false_eq_true,if_false]
 by_cases h3:(0≤s.Known∧s.Known≤100000)∧(s.Until=0∨(s.Known<s.Until∧s.Until≤100000))
 rotate_left
 · simp only [h3,decide_false,Bool.not_false,if_true];exact no (fun h=>⟨h.known,h.until_⟩) h3
 simp only [decide_eq_true h3,Bool.not_true,Bool.false_eq_true,if_false]
 by_cases h4:2≤s.Rows.length∧s.Rows.length≤12
 rotate_left
 · have:¬(2≤(s.Rows.length:Int)∧(s.Rows.length:Int)≤12):=by omega
   simp only [this,decide_false,Bool.not_false,if_true];exact no (fun h=>h.len) h4
 have h4':2≤(s.Rows.length:Int)∧(s.Rows.length:Int)≤12:=by omega
 simp only [h4',and_self,decide_true,Bool.not_true,Bool.false_eq_true,if_false]
 rw [isFrac_eq _ (by omega),Option.bind_some]
 by_cases h5:vf s.Off 100=true
 rotate_left
 · have h5':vf s.Off 100=false:=by simpa using h5
   simp only [h5',Bool.not_false,if_true];exact no (fun h=>h.off) h5
 have hv:=vf_iff.1 h5
 simp only [h5,Bool.not_true,Bool.false_eq_true,if_false]
 rw [W_id (z:=90*s.Off.Den) (by omega)]
 by_cases h6:0≤s.Off.Num∧s.Off.Num≤90*s.Off.Den
 rotate_left
 · simp only [h6,decide_false,Bool.not_false,if_true];exact no (fun h=>⟨h.off0,h.off1⟩) h6
 simp only [h6,and_self,decide_true,Bool.not_true,Bool.false_eq_true,if_false]
 by_cases h7:0≤s.Light.Lo∧s.Light.Lo≤s.Light.Hi∧s.Light.Hi≤1000
 rotate_left
 · have:¬(0>s.Light.Lo)→¬(s.Light.Lo>s.Light.Hi)→s.Light.Hi>1000:=fun a b=>by
    apply Int.lt_of_not_ge;intro c;exact h7 ⟨by omega,by omega,c⟩
   by_cases a:0>s.Light.Lo
   · simp only [a,decide_true,if_true];exact no (fun h=>h.light) h7
   · by_cases b:s.Light.Lo>s.Light.Hi
     · simp only [a,b,decide_true,decide_false,Bool.false_eq_true,if_false,if_true];exact no (fun h=>h.light) h7
     · simp only [a,b,this a b,decide_true,decide_false,Bool.false_eq_true,if_false,if_true];exact no (fun h=>h.light) h7
 have a1:¬(0>s.Light.Lo):=by omega
 have a2:¬(s.Light.Lo>s.Light.Hi):=by omega
 have a3:¬(s.Light.Hi>1000):=by omega
 simp only [a1,a2,a3,decide_false,Bool.false_eq_true,if_false]
 obtain⟨e,he,hq⟩:=rows_loop s h4.2
 rw [he,Option.bind_some]
 rcases hq with⟨rfl,hok⟩|⟨rfl,k,hk,hno⟩
 · have hlen:0<s.Rows.length:=by omega
   have hi0:idx s.Rows 0=some s.Rows[0]:=idx_nat (k:=0) hlen
   have hw:W ((s.Rows.length:Int)-1)=((s.Rows.length-1:Nat):Int):=by rw [W_id (by omega)];omega
   have hl1:s.Rows.length-1<s.Rows.length:=by omega
   simp only [hi0,Option.bind_some,hw,idx_nat hl1]
   by_cases h8:s.Rows[0].Minute=0
   rotate_left
   · simp only [bne_iff_ne,ne_eq,h8,not_false_eq_true,if_true]
     exact no (P:=s.Rows[0].Minute=0) (fun h=>h.first _ (List.getElem?_eq_getElem hlen)) h8
   by_cases h9:s.Rows[s.Rows.length-1].Minute=1439
   rotate_left
   · simp only [bne_iff_ne,ne_eq,h8,h9,not_false_eq_true,if_true,not_true_eq_false,if_false]
     exact no (P:=s.Rows[s.Rows.length-1].Minute=1439) (fun h=>h.last _ (List.getElem?_eq_getElem hl1)) h9
   simp only [bne_iff_ne,ne_eq,h8,h9,not_true_eq_false,if_false]
   rw [if_pos]
   exact⟨h1,h2,h3.1,h3.2,h4,h5,h6.1,h6.2,h7,hok,fun r hr=>by rw [List.getElem?_eq_getElem hlen]at hr;cases hr;exact h8,fun r hr=>by rw [List.getElem?_eq_getElem hl1]at hr;cases hr;exact h9⟩
 · exact no (P:=okRow s.Rows k) (fun h=>h.rows k hk) hno
theorem row_at {l:List TRow} {k:Nat} (h:k<l.length) (ho:okRow l k):VRow l[k]∧∀h0:0<k,l[k-1].Minute<l[k].Minute∧fcmp l[k-1].Bearing l[k].Bearing≤0:=by
 obtain⟨r,e1,e2,e3⟩:=ho
 rw [List.getElem?_eq_getElem h]at e1;cases e1
 exact⟨e2,fun h0=>e3 _ h0 (List.getElem?_eq_getElem (by omega))⟩
theorem rows_mono {l:List TRow} (h:∀k,k<l.length→okRow l k):∀(j i:Nat) (hi:i<l.length) (hj:j<l.length),i≤j→l[i].Minute≤l[j].Minute
 |0,i,hi,hj,hij=>by
  obtain rfl:i=0:=by omega
  exact Int.le_refl _
 |j+1,i,hi,hj,hij=>by
  by_cases e:i=j+1
  · subst e;exact Int.le_refl _
  · have h1:=rows_mono h j i hi (by omega) (by omega)
    have h2:=((row_at hj (h _ hj)).2 (by omega)).1
    simp only [Nat.add_sub_cancel]at h2
    omega
structure VRoof (r:TRoof):Prop where
 a:0≤r.From
 b:r.From<r.To
 c:r.To≤360
 d:0≤r.Top
 e:r.Top≤90
theorem CheckRoof_eq (r:TRoof):m_moon_CheckRoof r=some (if VRoof r then 0 else 22):=by
 unfold m_moon_CheckRoof
 simp only [within_eq,band,Option.bind_some]
 by_cases h:VRoof r
 · obtain⟨a,b,c,d,e⟩:=id h
   have h1:¬0>r.From:=by omega
   have h2:¬r.From≥r.To:=by omega
   have h3:¬r.To>360:=by omega
   simp [h,h1,h2,h3,d,e]
 · rw [if_neg h]
   by_cases h1:0>r.From
   · simp [h1]
   · by_cases h2:r.From≥r.To
     · simp [h1,h2]
     · by_cases h3:r.To>360
       · simp [h1,h2,h3]
       · have:¬(0≤r.Top∧r.Top≤90):=fun h4=>h ⟨by omega,by omega,by omega,h4.1,h4.2⟩
         simp only [h1,h2,h3,this,decide_false,Bool.not_false,Bool.false_eq_true,if_false,if_true]
theorem roofs_loop (l:List TRoof) (hl:l.length≤maxLen):∃e,loopF (m_moon_areRoofs_L1 l) 0=some e∧((e= .inl (l.length:Int)∧∀r,r∈l→VRoof r)∨(e= .inr false∧¬∀r,r∈l→VRoof r)):=by
 unfold maxLen at hl
 refine loopF_rule (fun i:Int=>∃k:Nat,i=k∧k≤l.length∧∀j (h:j<l.length),j<k→VRoof l[j]) (fun i:Int=>l.length-i.toNat) _ ?_ 0 ⟨0,rfl,by omega,by omega⟩ (lt_FUEL (by omega))
 rintro i ⟨k,rfl,hk,hok⟩
 unfold m_moon_areRoofs_L1
 by_cases hlt:k<l.length
 · have h1:(k:Int)<(l.length:Int):=by omega
   simp only [h1,decide_true,if_true,idx_nat hlt,Option.bind_some,CheckRoof_eq]
   by_cases hv:VRoof l[k]
   · right
     refine⟨W ((k:Int)+1),by simp [hv],⟨k+1,by rw [W_s (by omega)];rfl,by omega,fun j h hj=> ?_⟩,by rw [W_s (by omega)];omega⟩
     by_cases e:j=k
     · subst e;exact hv
     · exact hok j h (by omega)
   · left
     exact⟨.inr false,by simp [hv], .inr ⟨rfl,fun h=>hv (h _ (List.getElem_mem hlt))⟩⟩
 · left
   have h1:¬(k:Int)<(l.length:Int):=by omega
   obtain rfl:k=l.length:=by omega
   refine⟨.inl _,by simp, .inl ⟨rfl,fun r hr=> ?_⟩⟩
   obtain⟨j,hj,rfl⟩:=List.mem_iff_getElem.1 hr
   exact hok j hj hj
structure VRoofs (l:List TRoof):Prop where
 all:∀r,r∈l→VRoof r
 len:l.length≤12
theorem areRoofs_eq (l:List TRoof) (hl:l.length≤maxLen):m_moon_areRoofs l=some (decide (VRoofs l)):=by
 unfold m_moon_areRoofs
 obtain⟨e,he,hq⟩:=roofs_loop l hl
 rw [he,Option.bind_some]
 rcases hq with⟨rfl,h⟩|⟨rfl,h⟩
 · by_cases h12:l.length≤12
   · have:VRoofs l:=⟨h,h12⟩
     have h':(l.length:Int)≤12:=by omega
     simp [this,h']
   · have:¬VRoofs l:=fun h=>h12 h.len
     have h':¬(l.length:Int)≤12:=by omega
     simp [this,h']
 · have:¬VRoofs l:=fun k=>h k.all
   simp [this]
def hzf (g:TFrac) (top:Int) (r:TRoof):Int:=if fcmp ⟨r.From,1⟩ g≤0∧fcmp ⟨r.To,1⟩ g>0 then(if r.Top>top then r.Top else top)else top
def hz (l:List TRoof) (g:TFrac):Int:=l.foldl (hzf g) 0
theorem Sm_whole {n:Int} (h: -360≤n∧n≤360):Sm ⟨n,1⟩:=⟨by simp,by simp,by simp;omega,by simp;omega⟩
theorem foldl_drop {α β:Type} {f:β→α→β} {l:List α} {k:Nat} (h:k<l.length) (b:β):(l.drop k).foldl f b=(l.drop (k+1)).foldl f (f b l[k]):=by
 rw [List.drop_eq_getElem_cons h];rfl
theorem horizon_eq {l:List TRoof} (hl:VRoofs l) {g:TFrac} (hg:Sm g):m_moon_horizon l g=some (hz l g):=by
 unfold m_moon_horizon
 have h12:=hl.len
 obtain⟨e,he,hq⟩:=loopF_rule (body:=m_moon_horizon_L1 l g) (fun s:Int×Int=>∃k:Nat,s.2=k∧k≤l.length∧(l.drop k).foldl (hzf g) s.1=hz l g) (fun s=>l.length-s.2.toNat) (fun e=>e.1=hz l g) (by
  rintro⟨top,i⟩ ⟨k,rfl,hk,hf⟩
  simp only at hf⊢
  unfold m_moon_horizon_L1
  by_cases hlt:k<l.length
  · have h1:(k:Int)<(l.length:Int):=by omega
    have hr:=hl.all _ (List.getElem_mem hlt)
    have s1:Sm ⟨l[k].From,1⟩:=Sm_whole (by have:=hr.a;have:=hr.b;have:=hr.c;omega)
    have s2:Sm ⟨l[k].To,1⟩:=Sm_whole (by have:=hr.a;have:=hr.b;have:=hr.c;omega)
    rw [foldl_drop hlt]at hf
    right
    refine⟨(hzf g top l[k],W ((k:Int)+1)), ?_,⟨k+1,by rw [W_s (by omega)];rfl,by omega,hf⟩,by simp only;rw [W_s (by omega)];omega⟩
    simp only [h1,decide_true,if_true,idx_nat hlt,Option.bind_some,m_moon_whole]
    rw [compare_eq s1 hg,Option.bind_some]
    by_cases c1:fcmp ⟨l[k].From,1⟩ g≤0
    · simp only [c1,decide_true,if_true]
      rw [compare_eq s2 hg,Option.bind_some]
      by_cases c2:fcmp ⟨l[k].To,1⟩ g>0
      · simp [c2,c1,hzf]
      · simp [c2,c1,hzf]
    · simp [c1,hzf]
  · left
    have h1:¬(k:Int)<(l.length:Int):=by omega
    rw [List.drop_of_length_le (by omega)]at hf
    exact⟨(top,(k:Int)),by simp [h1],hf⟩) (0,0) ⟨0,rfl,by omega,rfl⟩ (lt_FUEL (by omega))
 obtain⟨top,i⟩:=e
 rw [he];simp only at hq;subst hq;rfl
theorem rhorizon_eq {l:List TRoof} (hl:VRoofs l) {g:TFrac} (hg:Sm g):m_R02_horizon l g=some (hz l g):=by
 unfold m_R02_horizon
 have h12:=hl.len
 obtain⟨e,he,hq⟩:=loopF_rule (body:=m_R02_horizon_L1 l g) (fun s:Int×Int=>∃k:Nat,s.2=k∧k≤l.length∧(l.drop k).foldl (hzf g) s.1=hz l g) (fun s=>l.length-s.2.toNat) (fun e=>e.1=hz l g) (by
  rintro⟨top,i⟩ ⟨k,rfl,hk,hf⟩
  simp only at hf⊢
  unfold m_R02_horizon_L1
  by_cases hlt:k<l.length
  · have h1:(k:Int)<(l.length:Int):=by omega
    have hr:=hl.all _ (List.getElem_mem hlt)
    have s1:Sm ⟨l[k].From,1⟩:=Sm_whole (by have:=hr.a;have:=hr.b;have:=hr.c;omega)
    have s2:Sm ⟨l[k].To,1⟩:=Sm_whole (by have:=hr.a;have:=hr.b;have:=hr.c;omega)
    rw [foldl_drop hlt]at hf
    right
    refine⟨(hzf g top l[k],W ((k:Int)+1)), ?_,⟨k+1,by rw [W_s (by omega)];rfl,by omega,hf⟩,by simp only;rw [W_s (by omega)];omega⟩
    simp only [h1,decide_true,if_true,idx_nat hlt,Option.bind_some,m_R02_whole]
    rw [sign_eq s1 hg,Option.bind_some]
    by_cases c1:fcmp ⟨l[k].From,1⟩ g≤0
    · simp only [c1,decide_true,if_true]
      rw [sign_eq hg s2,Option.bind_some]
      have han:=fcmp_anti ⟨l[k].To,1⟩ g
      by_cases c2:fcmp ⟨l[k].To,1⟩ g>0
      · have c3:fcmp g ⟨l[k].To,1⟩<0:=by omega
        simp [c2,c1,c3,hzf]
      · have c3:¬fcmp g ⟨l[k].To,1⟩<0:=by omega
        simp [c2,c1,c3,hzf]
    · simp [c1,hzf]
  · left
    have h1:¬(k:Int)<(l.length:Int):=by omega
    rw [List.drop_of_length_le (by omega)]at hf
    exact⟨(top,(k:Int)),by simp [h1],hf⟩) (0,0) ⟨0,rfl,by omega,rfl⟩ (lt_FUEL (by omega))
 obtain⟨top,i⟩:=e
 rw [he];simp only at hq;subst hq;rfl
theorem hz_bd {l:List TRoof} (hl:∀r,r∈l→VRoof r) (g:TFrac):0≤hz l g∧hz l g≤90:=by
 have:∀(l:List TRoof) (b:Int),(∀r,r∈l→VRoof r)→0≤b∧b≤90→0≤l.foldl (hzf g) b∧l.foldl (hzf g) b≤90:=by
  intro l
  induction l with
  |nil=>intro b _ h;exact h
  |cons r l ih=>
   intro b h hb
   refine ih _ (fun r hr=>h r (List.mem_cons_of_mem _ hr)) ?_
   have hr:=h r List.mem_cons_self
   have:=hr.d;have:=hr.e
   unfold hzf;split<;>(try split)<;>omega
 exact this l 0 hl (by omega)
theorem rd_eq {n d n' d':Int} (hd:0<d) (hd':0<d') (h:n*d'=n'*d):rd n d=rd n' d':=by
 have key:∀ {n d:Int},0<d→Nat.gcd (rd n d).Num.natAbs (rd n d).Den.natAbs=1:=by
  intro n d hd
  have hp:=gcd_pos (n:=n) hd
  have e1:(rd n d).Num.natAbs=n.natAbs / Nat.gcd n.natAbs d.natAbs:=by
   unfold rd;simp only;rw [Int.natAbs_ediv_of_dvd (gcd_dvd_n n d)];rfl
  have e2:(rd n d).Den.natAbs=d.natAbs / Nat.gcd n.natAbs d.natAbs:=by
   unfold rd;simp only;rw [Int.natAbs_ediv_of_dvd (gcd_dvd_d n d)];rfl
  rw [e1,e2]
  exact Nat.gcd_div_gcd_div_gcd_of_pos_right (by omega)
 have k1:=key (n:=n) hd
 have k2:=key (n:=n') hd'
 obtain⟨g,hg,e1,e2,p1⟩:=rd_spec (n:=n) hd
 obtain⟨g',hg',e3,e4,p2⟩:=rd_spec (n:=n') hd'
 generalize rd n d=p at*
 generalize rd n' d'=q at*
 have hx:p.Num*q.Den=q.Num*p.Den:=by
  rw [e1,e2,e3,e4]at h
  have h2:(g*g')*(p.Num*q.Den)=(g*g')*(q.Num*p.Den):=by
   have a:(g*g')*(p.Num*q.Den)=g*p.Num*(g'*q.Den):=by ac_rfl
   have b:(g*g')*(q.Num*p.Den)=g'*q.Num*(g*p.Den):=by ac_rfl
   rw [a,b];exact h
  exact Int.eq_of_mul_eq_mul_left (by have:=Int.mul_pos hg hg';omega) h2
 have hn:p.Num.natAbs*q.Den.natAbs=q.Num.natAbs*p.Den.natAbs:=by
  rw [←Int.natAbs_mul,←Int.natAbs_mul,hx]
 have d1:p.Den.natAbs∣q.Den.natAbs:=by
  have:p.Den.natAbs∣p.Num.natAbs*q.Den.natAbs:=⟨q.Num.natAbs,by rw [hn,Nat.mul_comm]⟩
  exact Nat.Coprime.dvd_of_dvd_mul_left (Nat.Coprime.symm k1) this
 have d2:q.Den.natAbs∣p.Den.natAbs:=by
  have:q.Den.natAbs∣q.Num.natAbs*p.Den.natAbs:=⟨p.Num.natAbs,by rw [←hn,Nat.mul_comm]⟩
  exact Nat.Coprime.dvd_of_dvd_mul_left (Nat.Coprime.symm k2) this
 have hden:p.Den=q.Den:=by
  have:=Nat.dvd_antisymm d1 d2;omega
 have hnum:p.Num=q.Num:=by
  rw [hden]at hx
  exact Int.eq_of_mul_eq_mul_right (by omega) hx
 cases p;cases q;simp_all
def segN (a b:TFrac) (m n t:Int):Int:=a.Num*b.Den*(n-m)+(b.Num*a.Den-a.Num*b.Den)*(t-m)
def segD (a b:TFrac) (m n:Int):Int:=a.Den*b.Den*(n-m)
def seg (a b:TFrac) (m n t:Int):TFrac:=rd (segN a b m n t) (segD a b m n)
structure SegOK (a b:TFrac) (m n t:Int):Prop where
 va:vf a 100=true
 vb:vf b 100=true
 mn:m<n
 mt:m≤t
 tn:t≤n
 m0:0≤m
 n1:n≤1439
theorem SegOK.facts {a b:TFrac} {m n t:Int} (h:SegOK a b m n t):(-3600000≤a.Num*b.Den∧a.Num*b.Den≤3600000)∧(-3600000≤b.Num*a.Den∧b.Num*a.Den≤3600000)∧(1≤a.Den*b.Den∧a.Den*b.Den≤10000):=by
 obtain⟨a1,a2,a3,a4⟩:=vf_iff.1 h.va
 obtain⟨b1,b2,b3,b4⟩:=vf_iff.1 h.vb
 have h1:=mul_bd (a:=a.Num) (b:=b.Den) (A:=36000) (B:=100) (by omega) (by omega)
 have h2:=mul_bd (a:=b.Num) (b:=a.Den) (A:=36000) (B:=100) (by omega) (by omega)
 have h3:=mul_bd (a:=a.Den) (b:=b.Den) (A:=100) (B:=100) (by omega) (by omega)
 have h4:0<a.Den*b.Den:=Int.mul_pos (by omega) (by omega)
 exact⟨by omega,by omega,by omega,by omega⟩
theorem SegOK.den {a b:TFrac} {m n t:Int} (h:SegOK a b m n t):0<segD a b m n∧segD a b m n≤14390000:=by
 obtain⟨_,_,h1,h2⟩:=h.facts
 have:=h.mn;have:=h.m0;have:=h.n1
 have h3:=mul_bd (a:=a.Den*b.Den) (b:=n-m) (A:=10000) (B:=1439) (by omega) (by omega)
 have h4:0<a.Den*b.Den*(n-m):=Int.mul_pos (by omega) (by omega)
 unfold segD;omega
theorem segN_alt (a b:TFrac) (m n t:Int):segN a b m n t=a.Num*b.Den*(n-t)+b.Num*a.Den*(t-m):=by
 unfold segN
 rw [Int.sub_mul]
 have:a.Num*b.Den*(n-m)=a.Num*b.Den*(n-t)+a.Num*b.Den*(t-m):=by rw [←Int.mul_add];congr 1;omega
 omega
theorem SegOK.num {a b:TFrac} {m n t:Int} (h:SegOK a b m n t): -(360*segD a b m n)≤segN a b m n t∧segN a b m n t≤360*segD a b m n:=by
 obtain⟨a1,a2,a3,a4⟩:=vf_iff.1 h.va
 obtain⟨b1,b2,b3,b4⟩:=vf_iff.1 h.vb
 have:=h.mt;have:=h.tn
 have p:∀ {x d e u:Int},0≤e→0≤u→-(360*d)≤x→x≤360*d→-(360*(d*e*u))≤x*e*u∧x*e*u≤360*(d*e*u):=by
  intro x d e u he hu h1 h2
  have q1:=Int.mul_le_mul_of_nonneg_right (Int.mul_le_mul_of_nonneg_right h1 he) hu
  have q2:=Int.mul_le_mul_of_nonneg_right (Int.mul_le_mul_of_nonneg_right h2 he) hu
  have e1: -(360*d)*e*u= -(360*(d*e*u)):=by simp only [Int.neg_mul,Int.mul_assoc]
  have e2:360*d*e*u=360*(d*e*u):=by simp only [Int.mul_assoc]
  omega
 have p1:=p (x:=a.Num) (d:=a.Den) (e:=b.Den) (u:=n-t) (by omega) (by omega) a3 a4
 have p2:=p (x:=b.Num) (d:=b.Den) (e:=a.Den) (u:=t-m) (by omega) (by omega) b3 b4
 have e1:segD a b m n=a.Den*b.Den*(n-t)+b.Den*a.Den*(t-m):=by
  unfold segD
  rw [Int.mul_comm b.Den a.Den,←Int.mul_add];congr 1;omega
 rw [segN_alt,e1]
 omega
theorem SegOK.vf {a b:TFrac} {m n t:Int} (h:SegOK a b m n t):vf (seg a b m n t) 20000000=true:=by
 obtain⟨h1,h2⟩:=h.den
 obtain⟨h3,h4⟩:=h.num
 exact vf_rd (x:=⟨segN a b m n t,segD a b m n⟩) (vf_iff.2 ⟨by simp only;omega,by simp only;omega,h3,h4⟩)
theorem SegOK.wraps {a b:TFrac} {m n t:Int} (h:SegOK a b m n t):
 W (W (W (a.Num*b.Den)*(n-m))+W (W (W (b.Num*a.Den)-W (a.Num*b.Den))*(t-m)))=segN a b m n t∧W (W (a.Den*b.Den)*(n-m))=segD a b m n:=by
 obtain⟨f1,f2,f3⟩:=h.facts
 have:=h.mn;have:=h.mt;have:=h.tn;have:=h.m0;have:=h.n1
 have p1:=mul_bd (a:=a.Num*b.Den) (b:=n-m) (A:=3600000) (B:=1439) (by omega) (by omega)
 have p2:=mul_bd (a:=b.Num*a.Den-a.Num*b.Den) (b:=t-m) (A:=7200000) (B:=1439) (by omega) (by omega)
 have p3:=mul_bd (a:=a.Den*b.Den) (b:=n-m) (A:=10000) (B:=1439) (by omega) (by omega)
 rw [W_id (z:=a.Num*b.Den) (by omega),W_id (z:=b.Num*a.Den) (by omega),W_id (z:=a.Den*b.Den) (by omega),W_id (z:=b.Num*a.Den-a.Num*b.Den) (by omega),
  W_id (z:=a.Num*b.Den*(n-m)) (by omega),W_id (z:=(b.Num*a.Den-a.Num*b.Den)*(t-m)) (by omega),W_id (z:=a.Den*b.Den*(n-m)) (by omega),W_id (by omega)]
 exact⟨rfl,rfl⟩
theorem SegOK.I {a b:TFrac} {m n t:Int} (h:SegOK a b m n t):I64 (segN a b m n t)∧I64 (segD a b m n):=by
 obtain⟨h1,h2⟩:=h.den
 obtain⟨h3,h4⟩:=h.num
 omega
theorem between_eq {a b:TFrac} {m n t:Int} (h:SegOK a b m n t):m_moon_between a b (W (t-m)) (W (n-m))=some (seg a b m n t):=by
 have:=h.mn;have:=h.mt;have:=h.tn;have:=h.m0;have:=h.n1
 unfold m_moon_between
 rw [W_id (z:=t-m) (by omega),W_id (z:=n-m) (by omega),h.wraps.1,h.wraps.2,least_eq h.I.1 h.den.1 h.I.2]
 rfl
theorem rbetween_eq {a b:TFrac} {m n t:Int} (h:SegOK a b m n t):m_R02_between a b (m,n,t)=some (seg a b m n t):=by
 have:=h.mn;have:=h.mt;have:=h.tn;have:=h.m0;have:=h.n1
 unfold m_R02_between
 simp only
 rw [W_id (z:=t-m) (by omega),W_id (z:=n-m) (by omega),h.wraps.1,h.wraps.2,frac_eq h.I.1 h.den.1 h.I.2]
 rfl
theorem seg_end {a b:TFrac} {m n:Int} (h:SegOK a b m n n):seg a b m n n=rd b.Num b.Den:=by
 obtain⟨b1,_⟩:=vf_iff.1 h.vb
 refine rd_eq h.den.1 (by omega) ?_
 rw [segN_alt];unfold segD
 rw [Int.sub_self,Int.mul_zero,Int.zero_add];ac_rfl
theorem seg_start {a b:TFrac} {m n:Int} (h:SegOK a b m n m):seg a b m n m=rd a.Num a.Den:=by
 obtain⟨a1,_⟩:=vf_iff.1 h.va
 refine rd_eq h.den.1 (by omega) ?_
 rw [segN_alt];unfold segD
 rw [Int.sub_self,Int.mul_zero,Int.add_zero];ac_rfl
theorem VSheet.pos {s:TSheet} (hs:VSheet s):0<s.Rows.length:=by have:=hs.len;omega
theorem VSheet.row {s:TSheet} (hs:VSheet s) {k:Nat} (h:k<s.Rows.length):VRow s.Rows[k]:=(row_at h (hs.rows k h)).1
theorem VSheet.step {s:TSheet} (hs:VSheet s) {k:Nat} (h:k+1<s.Rows.length):s.Rows[k].Minute<s.Rows[k+1].Minute:=by
 have:=((row_at h (hs.rows _ h)).2 (by omega)).1
 simpa using this
theorem VSheet.mono {s:TSheet} (hs:VSheet s) {i j:Nat} (hi:i<s.Rows.length) (hj:j<s.Rows.length) (h:i≤j):s.Rows[i].Minute≤s.Rows[j].Minute:=rows_mono hs.rows j i hi hj h
theorem VSheet.first0 {s:TSheet} (hs:VSheet s):(s.Rows[0]'hs.pos).Minute=0:=hs.first _ (List.getElem?_eq_getElem hs.pos)
theorem VSheet.last0 {s:TSheet} (hs:VSheet s):(s.Rows[s.Rows.length-1]'(by have:=hs.pos;omega)).Minute=1439:=hs.last _ (List.getElem?_eq_getElem (by have:=hs.pos;omega))
theorem VSheet.bd {s:TSheet} (hs:VSheet s) {k:Nat} (h:k<s.Rows.length):0≤s.Rows[k].Minute∧s.Rows[k].Minute≤1439:=by
 have h1:=hs.mono hs.pos h (by omega)
 have h2:=hs.mono h (by have:=hs.pos;omega:s.Rows.length-1<s.Rows.length) (by omega)
 rw [hs.first0]at h1;rw [hs.last0]at h2
 exact⟨h1,h2⟩
theorem VSheet.segH {s:TSheet} (hs:VSheet s) {k:Nat} (h:k+1<s.Rows.length) {t:Int} (h1:s.Rows[k].Minute≤t) (h2:t≤s.Rows[k+1].Minute):SegOK s.Rows[k].Height s.Rows[k+1].Height s.Rows[k].Minute s.Rows[k+1].Minute t:=
 ⟨(hs.row (by omega)).h,(hs.row h).h,hs.step h,h1,h2,(hs.bd (by omega)).1,(hs.bd h).2⟩
theorem VSheet.segB {s:TSheet} (hs:VSheet s) {k:Nat} (h:k+1<s.Rows.length) {t:Int} (h1:s.Rows[k].Minute≤t) (h2:t≤s.Rows[k+1].Minute):SegOK s.Rows[k].Bearing s.Rows[k+1].Bearing s.Rows[k].Minute s.Rows[k+1].Minute t:=
 ⟨(hs.row (by omega)).b,(hs.row h).b,hs.step h,h1,h2,(hs.bd (by omega)).1,(hs.bd h).2⟩
theorem at_loop {s:TSheet} (hs:VSheet s) {t:Int} (h0:0≤t) (h1:t≤1439):∃k:Nat,loopF (m_moon_at__moon_heightOf_L1 s t) 0=some (k:Int)∧∃h:k+1<s.Rows.length,t≤s.Rows[k+1].Minute∧s.Rows[k].Minute≤t∧(0<k→s.Rows[k].Minute<t):=by
 obtain⟨e,he,k,rfl,hk⟩:=loopF_rule (body:=m_moon_at__moon_heightOf_L1 s t) (fun i:Int=>∃k:Nat,i=k∧∃h:k+1<s.Rows.length,s.Rows[k].Minute≤t∧(0<k→s.Rows[k].Minute<t)) (fun i:Int=>s.Rows.length-i.toNat)
  (fun e=>∃k:Nat,e=k∧∃h:k+1<s.Rows.length,t≤s.Rows[k+1].Minute∧s.Rows[k].Minute≤t∧(0<k→s.Rows[k].Minute<t)) (by
  rintro i ⟨k,rfl,h,h2,h3⟩
  have hl:=hs.len
  unfold m_moon_at__moon_heightOf_L1
  rw [W_s (by omega),idx_nat1 h,Option.bind_some]
  by_cases hc:s.Rows[k+1].Minute<t
  · right
    have hk2:k+1+1<s.Rows.length:=by
     apply Nat.lt_of_not_le;intro hn
     have:s.Rows[s.Rows.length-1]'(by omega)=s.Rows[k+1]:=by congr 1;omega
     have h4:=hs.last0
     rw [this]at h4;omega
    exact⟨(k:Int)+1,by simp [hc],⟨k+1,rfl,hk2,by omega,fun _=>hc⟩,by omega⟩
  · left
    exact⟨(k:Int),by simp [hc],k,rfl,h,by omega,h2,h3⟩) 0 ⟨0,rfl,by have:=hs.len;omega,by have:=hs.first0;omega,by omega⟩ (lt_FUEL (by have:=hs.len;omega))
 exact⟨k,he,hk⟩
theorem atB_L1:m_moon_at__moon_bearingOf_L1=m_moon_at__moon_heightOf_L1:=rfl
theorem place_loop {s:TSheet} (hs:VSheet s) {t:Int} (h0:0≤t) (h1:t≤1439):∃k:Nat,loopF (m_R02_place_L1 s t) 0=some (k:Int)∧∃h:k+1<s.Rows.length,s.Rows[k].Minute≤t∧(k+2<s.Rows.length→t<s.Rows[k+1].Minute):=by
 obtain⟨e,he,k,rfl,hk⟩:=loopF_rule (body:=m_R02_place_L1 s t) (fun i:Int=>∃k:Nat,i=k∧∃h:k+1<s.Rows.length,s.Rows[k].Minute≤t) (fun i:Int=>s.Rows.length-i.toNat)
  (fun e=>∃k:Nat,e=k∧∃h:k+1<s.Rows.length,s.Rows[k].Minute≤t∧(k+2<s.Rows.length→t<s.Rows[k+1].Minute)) (by
  rintro i ⟨k,rfl,h,h2⟩
  have hl:=hs.len
  unfold m_R02_place_L1
  rw [W_id (z:=(k:Int)+2) (by omega),W_s (by omega)]
  by_cases hc:k+2<s.Rows.length
  · have hc':(k:Int)+2<(s.Rows.length:Int):=by omega
    simp only [hc',decide_true,if_true]
    rw [idx_nat1 h,Option.bind_some]
    by_cases hm:s.Rows[k+1].Minute≤t
    · right
      exact⟨(k:Int)+1,by simp [hm],⟨k+1,rfl,hc,hm⟩,by omega⟩
    · left
      exact⟨(k:Int),by simp [hm],k,rfl,h,h2,fun _=>by omega⟩
  · left
    have hc':¬(k:Int)+2<(s.Rows.length:Int):=by omega
    exact⟨(k:Int),by simp [hc'],k,rfl,h,h2,fun h=>absurd h hc⟩) 0 ⟨0,rfl,by have:=hs.len;omega,by have:=hs.first0;omega⟩ (lt_FUEL (by have:=hs.len;omega))
 exact⟨k,he,hk⟩
structure At (s:TSheet) (t:Int) (h g:TFrac):Prop where
 ex:∃(k:Nat) (hk:k+1<s.Rows.length),s.Rows[k].Minute≤t∧t≤s.Rows[k+1].Minute∧h=seg s.Rows[k].Height s.Rows[k+1].Height s.Rows[k].Minute s.Rows[k+1].Minute t∧g=seg s.Rows[k].Bearing s.Rows[k+1].Bearing s.Rows[k].Minute s.Rows[k+1].Minute t
theorem at_ex {s:TSheet} (hs:VSheet s) {t:Int} (h0:0≤t) (h1:t≤1439):∃h g,At s t h g∧m_moon_at__moon_heightOf s t=some h∧m_moon_at__moon_bearingOf s t=some g∧m_R02_place s t=some (h,g):=by
 obtain⟨k,ek,hk,a1,a2,a3⟩:=at_loop hs h0 h1
 obtain⟨j,ej,hj,b1,b2⟩:=place_loop hs h0 h1
 have hl:=hs.len
 have sh:=hs.segH hk a2 a1
 have sb:=hs.segB hk a2 a1
 refine⟨_,_,⟨k,hk,a2,a1,rfl,rfl⟩, ?_, ?_, ?_⟩
 · unfold m_moon_at__moon_heightOf m_moon_heightOf
   rw [ek,Option.bind_some,idx_nat (by omega),Option.bind_some,W_s (by omega),idx_nat1 hk]
   simp only [Option.bind_some]
   rw [between_eq sh];rfl
 · unfold m_moon_at__moon_bearingOf m_moon_bearingOf
   rw [atB_L1,ek,Option.bind_some,idx_nat (by omega),Option.bind_some,W_s (by omega),idx_nat1 hk]
   simp only [Option.bind_some]
   rw [between_eq sb];rfl
 · unfold m_R02_place
   rw [ej,Option.bind_some,idx_nat (by omega),Option.bind_some,W_s (by omega),idx_nat1 hj,Option.bind_some]
   have b3:t≤s.Rows[j+1].Minute:=by
    by_cases h:j+2<s.Rows.length
    · have:=b2 h;omega
    · have:s.Rows[s.Rows.length-1]'(by omega)=s.Rows[j+1]:=by congr 1;omega
      have h4:=hs.last0
      rw [this]at h4;omega
   rw [rbetween_eq (hs.segH hj b1 b3),Option.bind_some,rbetween_eq (hs.segB hj b1 b3),Option.bind_some]
   --the same pair of rows,or the next one at its first minute
   rcases Nat.lt_trichotomy j k with h|h|h
   · exfalso
     have:=b2 (by omega)
     have h5:=hs.mono (i:=j+1) (j:=k) (by omega) (by omega) (by omega)
     omega
   · subst h;rfl
   · have h5:=hs.mono (i:=k+1) (j:=j) (by omega) (by omega) (by omega)
     have hjk:j=k+1:=by
      apply Nat.le_antisymm _ h
      apply Nat.le_of_not_lt;intro hlt
      have h6:=hs.step (k:=k+1) (by omega)
      have h7:=hs.mono (i:=k+1+1) (j:=j) (by omega) (by omega) (by omega)
      omega
     subst hjk
     obtain rfl:t=s.Rows[k+1].Minute:=by omega
     rw [seg_start (hs.segH hj b1 b3),seg_start (hs.segB hj b1 b3),seg_end sh,seg_end sb]
theorem At.vh {s:TSheet} (hs:VSheet s) {t:Int} {h g:TFrac} (ha:At s t h g):vf h 20000000=true:=by
 obtain⟨k,hk,a1,a2,rfl,rfl⟩:=ha.ex
 exact(hs.segH hk a1 a2).vf
theorem At.vg {s:TSheet} (hs:VSheet s) {t:Int} {h g:TFrac} (ha:At s t h g):vf g 20000000=true:=by
 obtain⟨k,hk,a1,a2,rfl,rfl⟩:=ha.ex
 exact(hs.segB hk a1 a2).vf
def lessF (h:TFrac) (n:Int):TFrac:=rd (h.Num-n*h.Den) h.Den
theorem less_bd {h:TFrac} (hv:vf h 20000000=true) {n:Int} (hn:0≤n∧n≤90):I64 (h.Num-n*h.Den)∧I64 h.Den∧0<h.Den∧W (h.Num-W (n*h.Den))=h.Num-n*h.Den:=by
 obtain⟨h1,h2,h3,h4⟩:=vf_iff.1 hv
 have p:=mul_bd (a:=n) (b:=h.Den) (A:=90) (B:=20000000) (by omega) (by omega)
 refine⟨by omega,by omega,by omega, ?_⟩
 rw [W_id (z:=n*h.Den) (by omega),W_id (by omega)]
theorem margin_ex {s:TSheet} (hs:VSheet s) {l:List TRoof} (hl:VRoofs l) {t:Int} (h0:0≤t) (h1:t≤1439):∃h g,At s t h g∧m_moon_margin s l t=some (lessF h (hz l g))∧m_R02_margin s l t=some (lessF h (hz l g)):=by
 obtain⟨h,g,ha,e1,e2,e3⟩:=at_ex hs h0 h1
 have vh:=ha.vh hs
 have vg:=ha.vg hs
 have sg:=vf_Sm (Int.le_refl _) vg
 obtain⟨b1,b2,b3,b4⟩:=less_bd vh (hz_bd hl.all g)
 refine⟨h,g,ha, ?_, ?_⟩
 · unfold m_moon_margin
   rw [e1,Option.bind_some,e2,Option.bind_some,horizon_eq hl sg,Option.bind_some,b4,least_eq b1 b3 b2];rfl
 · unfold m_R02_margin m_R02_less
   rw [e3]
   simp only [Option.bind_some]
   rw [rhorizon_eq hl sg,Option.bind_some,b4,frac_eq b1 b3 b2];rfl
theorem isMinute_eq (t:Int):m_moon_isMinute t=some (decide (0≤t∧t≤1439)):=by
 unfold m_moon_isMinute;rw [within_eq,band];rfl
structure VSight (x:TSighting):Prop where
 src:1≤x.Source∧x.Source≤99999
 night:0≤x.Night∧x.Night≤100000
 min:0≤x.Minute∧x.Minute≤1439
 known:0≤x.Known∧x.Known≤100000
 until_:x.Until=0∨(x.Known<x.Until∧x.Until≤100000)
theorem isNight_eq (n:Int):m_moon_isNight n=some (decide (0≤n∧n≤100000)):=by
 unfold m_moon_isNight;rw [within_eq,band];rfl
theorem CheckSighting_eq (x:TSighting):m_moon_CheckSighting x=some (if VSight x then 0 else 23):=by
 have no:∀ {P:Prop},(VSight x→P)→¬P→some (23:Int)=some (if VSight x then 0 else 23):=fun h hn=>by
  rw [if_neg fun hv=>hn (h hv)]
 unfold m_moon_CheckSighting
 simp only [within_eq,band,lasts_eq,isNight_eq,isMinute_eq,Option.bind_some]
 by_cases h1:1≤x.Source∧x.Source≤99999
 rotate_left
 · simp only [h1,decide_false,Bool.not_false,if_true];exact no (fun h=>h.src) h1
 by_cases h2:0≤x.Night∧x.Night≤100000
 rotate_left
 · simp only [h1,h2,and_self,decide_true,decide_false,Bool.not_true,Bool.not_false,Bool.false_eq_true,if_false,if_true];exact no (fun h=>h.night) h2
 by_cases h3:0≤x.Minute∧x.Minute≤1439
 rotate_left
 · simp only [h1,h2,h3,and_self,decide_true,decide_false,Bool.not_true,Bool.not_false,Bool.false_eq_true,if_false,if_true];exact no (fun h=>h.min) h3
 by_cases h4:(0≤x.Known∧x.Known≤100000)∧(x.Until=0∨(x.Known<x.Until∧x.Until≤100000))
 rotate_left
 · simp only [h1,h2,h3,h4,and_self,decide_true,decide_false,Bool.not_true,Bool.not_false,Bool.false_eq_true,if_false,if_true];exact no (fun h=>⟨h.known,h.until_⟩) h4
 have hv:VSight x:=⟨h1,h2,h3,h4.1,h4.2⟩
 simp only [decide_eq_true h1,decide_eq_true h2,decide_eq_true h3,decide_eq_true h4,Bool.not_true,Bool.false_eq_true,if_false,if_pos hv]
def okSheet (l:List TSheet) (k:Nat):Prop:=∃x,l[k]?=some x∧VSheet x∧∀p,0<k→l[k-1]?=some p→p.Source<x.Source
def okSight (l:List TSighting) (k:Nat):Prop:=∃x,l[k]?=some x∧VSight x∧∀p,0<k→l[k-1]?=some p→p.Source<x.Source
structure VSky (s:TSky):Prop where
 n1:s.Sheets.length≤60
 n2:s.Sightings.length≤60
 roofs:VRoofs s.Roofs
 sheets:∀k,k<s.Sheets.length→okSheet s.Sheets k
 sights:∀k,k<s.Sightings.length→okSight s.Sightings k
theorem sheets_loop (s:TSky) (hl:s.Sheets.length≤60):∃e,loopF (m_moon_Check_L1 s) 0=some e∧((e= .inl (s.Sheets.length:Int)∧∀k,k<s.Sheets.length→okSheet s.Sheets k)∨(e= .inr 24∧∃k,k<s.Sheets.length∧¬okSheet s.Sheets k)):=by
 refine loopF_rule (fun i:Int=>∃k:Nat,i=k∧k≤s.Sheets.length∧∀j,j<k→okSheet s.Sheets j) (fun i:Int=>s.Sheets.length-i.toNat) _ ?_ 0 ⟨0,rfl,by omega,by omega⟩ (lt_FUEL (by omega))
 rintro i ⟨k,rfl,hk,hok⟩
 unfold m_moon_Check_L1
 by_cases hlt:k<s.Sheets.length
 · have h1:(k:Int)<(s.Sheets.length:Int):=by omega
   simp only [h1,decide_true,if_true,idx_nat hlt,Option.bind_some,CheckSheet_eq]
   by_cases hv:VSheet s.Sheets[k]
   · simp only [hv,if_true,bne_self_eq_false,Bool.false_eq_true,if_false]
     by_cases h0:0<k
     · have h2:(k:Int)>0:=by omega
       have hw:W ((k:Int)-1)=((k-1:Nat):Int):=by rw [W_id (by omega)];omega
       have hk1:k-1<s.Sheets.length:=by omega
       simp only [h2,decide_true,if_true,hw,idx_nat hk1,Option.bind_some]
       by_cases hm:s.Sheets[k-1].Source≥s.Sheets[k].Source
       · left
         refine⟨.inr 24,by simp [hm], .inr ⟨rfl,k,hlt,fun⟨r,e1,_,e2⟩=> ?_⟩⟩
         rw [List.getElem?_eq_getElem hlt]at e1;cases e1
         have:=e2 _ h0 (List.getElem?_eq_getElem hk1);omega
       · right
         refine⟨W ((k:Int)+1),by simp [hm],⟨k+1,by rw [W_s (by omega)];rfl,by omega,fun j hj=> ?_⟩,by rw [W_s (by omega)];omega⟩
         by_cases e:j=k
         · subst e
           refine⟨_,List.getElem?_eq_getElem hlt,hv,fun p hp e3=> ?_⟩
           rw [List.getElem?_eq_getElem hk1]at e3;cases e3
           omega
         · exact hok j (by omega)
     · right
       have hk0:(decide ((k:Int)>0))=false:=by simp;omega
       refine⟨W ((k:Int)+1),by rw [hk0];simp,⟨k+1,by rw [W_s (by omega)];rfl,by omega,fun j hj=> ?_⟩,by rw [W_s (by omega)];omega⟩
       obtain rfl:j=k:=by omega
       exact⟨_,List.getElem?_eq_getElem hlt,hv,fun p hp=>by omega⟩
   · left
     refine⟨.inr 24,by simp [hv], .inr ⟨rfl,k,hlt,fun⟨r,e1,e2,_⟩=> ?_⟩⟩
     rw [List.getElem?_eq_getElem hlt]at e1;cases e1;exact hv e2
 · left
   have h1:¬(k:Int)<(s.Sheets.length:Int):=by omega
   obtain rfl:k=s.Sheets.length:=by omega
   exact⟨.inl _,by simp, .inl ⟨rfl,hok⟩⟩
theorem sights_loop (s:TSky) (hl:s.Sightings.length≤60):∃e,loopF (m_moon_Check_L2 s) 0=some e∧((e= .inl (s.Sightings.length:Int)∧∀k,k<s.Sightings.length→okSight s.Sightings k)∨(e= .inr 24∧∃k,k<s.Sightings.length∧¬okSight s.Sightings k)):=by
 refine loopF_rule (fun i:Int=>∃k:Nat,i=k∧k≤s.Sightings.length∧∀j,j<k→okSight s.Sightings j) (fun i:Int=>s.Sightings.length-i.toNat) _ ?_ 0 ⟨0,rfl,by omega,by omega⟩ (lt_FUEL (by omega))
 rintro i ⟨k,rfl,hk,hok⟩
 unfold m_moon_Check_L2
 by_cases hlt:k<s.Sightings.length
 · have h1:(k:Int)<(s.Sightings.length:Int):=by omega
   simp only [h1,decide_true,if_true,idx_nat hlt,Option.bind_some,CheckSighting_eq]
   by_cases hv:VSight s.Sightings[k]
   · simp only [hv,if_true,bne_self_eq_false,Bool.false_eq_true,if_false]
     by_cases h0:0<k
     · have h2:(k:Int)>0:=by omega
       have hw:W ((k:Int)-1)=((k-1:Nat):Int):=by rw [W_id (by omega)];omega
       have hk1:k-1<s.Sightings.length:=by omega
       simp only [h2,decide_true,if_true,hw,idx_nat hk1,Option.bind_some]
       by_cases hm:s.Sightings[k-1].Source≥s.Sightings[k].Source
       · left
         refine⟨.inr 24,by simp [hm], .inr ⟨rfl,k,hlt,fun⟨r,e1,_,e2⟩=> ?_⟩⟩
         rw [List.getElem?_eq_getElem hlt]at e1;cases e1
         have:=e2 _ h0 (List.getElem?_eq_getElem hk1);omega
       · right
         refine⟨W ((k:Int)+1),by simp [hm],⟨k+1,by rw [W_s (by omega)];rfl,by omega,fun j hj=> ?_⟩,by rw [W_s (by omega)];omega⟩
         by_cases e:j=k
         · subst e
           refine⟨_,List.getElem?_eq_getElem hlt,hv,fun p hp e3=> ?_⟩
           rw [List.getElem?_eq_getElem hk1]at e3;cases e3
           omega
         · exact hok j (by omega)
     · right
       have hk0:(decide ((k:Int)>0))=false:=by simp;omega
       refine⟨W ((k:Int)+1),by rw [hk0];simp,⟨k+1,by rw [W_s (by omega)];rfl,by omega,fun j hj=> ?_⟩,by rw [W_s (by omega)];omega⟩
       obtain rfl:j=k:=by omega
       exact⟨_,List.getElem?_eq_getElem hlt,hv,fun p hp=>by omega⟩
   · left
     refine⟨.inr 24,by simp [hv], .inr ⟨rfl,k,hlt,fun⟨r,e1,e2,_⟩=> ?_⟩⟩
     rw [List.getElem?_eq_getElem hlt]at e1;cases e1;exact hv e2
 · left
   have h1:¬(k:Int)<(s.Sightings.length:Int):=by omega
   obtain rfl:k=s.Sightings.length:=by omega
   exact⟨.inl _,by simp, .inl ⟨rfl,hok⟩⟩
theorem Check_eq (s:TSky) (hr:s.Roofs.length≤maxLen):m_moon_Check s=some (if VSky s then 0 else 24):=by
 have no:∀ {P:Prop},(VSky s→P)→¬P→some (24:Int)=some (if VSky s then 0 else 24):=fun h hn=>by
  rw [if_neg fun hv=>hn (h hv)]
 unfold m_moon_Check
 by_cases h1:s.Sheets.length≤60
 rotate_left
 · have:(s.Sheets.length:Int)>60:=by omega
   simp only [this,decide_true,if_true];exact no (fun h=>h.n1) h1
 by_cases h2:s.Sightings.length≤60
 rotate_left
 · have a:¬(s.Sheets.length:Int)>60:=by omega
   have b:(s.Sightings.length:Int)>60:=by omega
   simp only [a,b,decide_true,decide_false,Bool.false_eq_true,if_false,if_true];exact no (fun h=>h.n2) h2
 have a:¬(s.Sheets.length:Int)>60:=by omega
 have b:¬(s.Sightings.length:Int)>60:=by omega
 simp only [a,b,decide_false,Bool.false_eq_true,if_false]
 rw [areRoofs_eq _ hr,Option.bind_some]
 by_cases h3:VRoofs s.Roofs
 rotate_left
 · simp only [h3,decide_false,Bool.not_false,if_true];exact no (fun h=>h.roofs) h3
 simp only [h3,decide_true,Bool.not_true,Bool.false_eq_true,if_false]
 obtain⟨e,he,hq⟩:=sheets_loop s h1
 rw [he,Option.bind_some]
 rcases hq with⟨rfl,hok⟩|⟨rfl,k,hk,hno⟩
 rotate_left
 · exact no (P:=okSheet s.Sheets k) (fun h=>h.sheets k hk) hno
 obtain⟨e,he,hq⟩:=sights_loop s h2
 simp only
 rw [he,Option.bind_some]
 rcases hq with⟨rfl,hok2⟩|⟨rfl,k,hk,hno⟩
 rotate_left
 · exact no (P:=okSight s.Sightings k) (fun h=>h.sights k hk) hno
 have hv:VSky s:=⟨h1,h2,h3,hok,hok2⟩
 simp [hv]
theorem VSky.sheet {s:TSky} (h:VSky s) {x:TSheet} (hx:x∈s.Sheets):VSheet x:=by
 obtain⟨k,hk,rfl⟩:=List.mem_iff_getElem.1 hx
 obtain⟨y,e1,e2,_⟩:=h.sheets k hk
 rw [List.getElem?_eq_getElem hk]at e1;cases e1;exact e2
theorem VSky.sight {s:TSky} (h:VSky s) {x:TSighting} (hx:x∈s.Sightings):VSight x:=by
 obtain⟨k,hk,rfl⟩:=List.mem_iff_getElem.1 hx
 obtain⟨y,e1,e2,_⟩:=h.sights k hk
 rw [List.getElem?_eq_getElem hk]at e1;cases e1;exact e2
def cnt (f u k:Int):Bool:=decide (f≤k∧(u=0∨k<u))
theorem counts_eq (f u k:Int):m_moon_counts f u k=some (cnt f u k):=by
 unfold m_moon_counts cnt
 by_cases h:f≤k
 · by_cases h2:u=0<;>simp [h,h2]
 · simp [h]
theorem rcounts_eq (f u k:Int):m_R02_counts f u k=some (cnt f u k):=counts_eq f u k
def inFs (night as_:Int) (acc:Option TSheet) (x:TSheet):Option TSheet:=
 if x.Night=night∧cnt x.Known x.Until as_=true then(match acc with|none=>some x|some y=>if x.Known≥y.Known then some x else some y)else acc
def inF (l:List TSheet) (night as_:Int):Option TSheet:=l.foldl (inFs night as_) none
def zeroSheet:TSheet:=⟨0,0,0,0, [],⟨0,0⟩,⟨0,0⟩⟩
theorem inForce_eq (s:TSky) (hl:s.Sheets.length≤60) (night as_:Int):m_moon_inForce s night as_=some ((inF s.Sheets night as_).getD zeroSheet,(inF s.Sheets night as_).isSome):=by
 unfold m_moon_inForce
 obtain⟨e,he,hq⟩:=loopF_rule (body:=m_moon_inForce_L1 s night as_) (fun st=>∃(k:Nat) (acc:Option TSheet),k≤s.Sheets.length∧(s.Sheets.drop k).foldl (inFs night as_) acc=inF s.Sheets night as_∧
  st=(acc.isSome,(k:Int),(acc.getD zeroSheet).Source,(acc.getD zeroSheet).Night,(acc.getD zeroSheet).Known,(acc.getD zeroSheet).Until,(acc.getD zeroSheet).Rows,(acc.getD zeroSheet).Off.Num,(acc.getD zeroSheet).Off.Den,(acc.getD zeroSheet).Light.Lo,(acc.getD zeroSheet).Light.Hi))
  (fun st=>s.Sheets.length-st.2.1.toNat) (fun st=>∃k:Int,st=((inF s.Sheets night as_).isSome,k,((inF s.Sheets night as_).getD zeroSheet).Source,((inF s.Sheets night as_).getD zeroSheet).Night,((inF s.Sheets night as_).getD zeroSheet).Known,((inF s.Sheets night as_).getD zeroSheet).Until,((inF s.Sheets night as_).getD zeroSheet).Rows,((inF s.Sheets night as_).getD zeroSheet).Off.Num,((inF s.Sheets night as_).getD zeroSheet).Off.Den,((inF s.Sheets night as_).getD zeroSheet).Light.Lo,((inF s.Sheets night as_).getD zeroSheet).Light.Hi)) (by
  rintro st ⟨k,acc,hk,hf,rfl⟩
  unfold m_moon_inForce_L1
  by_cases hlt:k<s.Sheets.length
  · right
    have h1:(k:Int)<(s.Sheets.length:Int):=by omega
    rw [foldl_drop hlt]at hf
    refine⟨_, ?_,⟨k+1,inFs night as_ acc s.Sheets[k],by omega,hf,rfl⟩,by simp only;omega⟩
    simp only [h1,decide_true,if_true,idx_nat hlt,Option.bind_some,counts_eq]
    have hw:W ((k:Int)+1)=((k+1:Nat):Int):=by rw [W_s (by omega)];rfl
    rw [hw]
    by_cases hn:s.Sheets[k].Night=night
    · by_cases hc:cnt s.Sheets[k].Known s.Sheets[k].Until as_=true
      · cases acc with
        |none=>simp [hn,hc,inFs]
        |some y=>
         by_cases hy:s.Sheets[k].Known≥y.Known
         · simp [hn,hc,inFs,hy]
         · simp [hn,hc,inFs,hy]
      · simp [hn,hc,inFs]
    · simp [hn,inFs]
  · left
    have h1:¬(k:Int)<(s.Sheets.length:Int):=by omega
    rw [List.drop_of_length_le (by omega)]at hf
    simp only [List.foldl_nil]at hf
    subst hf
    exact⟨_,by simp only [h1,decide_false,Bool.false_eq_true,if_false],k,rfl⟩) (false,0,0,0,0,0, [],0,0,0,0) ⟨0,none,by omega,rfl,rfl⟩ (lt_FUEL (by first|omega|(simp only;omega)))
 obtain⟨k,rfl⟩:=hq
 rw [he]
 rfl
theorem inF_mem {l:List TSheet} {night as_:Int} {x:TSheet} (h:inF l night as_=some x):x∈l∧x.Night=night∧cnt x.Known x.Until as_=true:=by
 have:∀(l:List TSheet) (acc:Option TSheet) (x:TSheet),l.foldl (inFs night as_) acc=some x→(acc=some x)∨(x∈l∧x.Night=night∧cnt x.Known x.Until as_=true):=by
  intro l
  induction l with
  |nil=>intro acc x h;exact .inl h
  |cons y l ih=>
   intro acc x h
   rcases ih _ _ h with h|⟨h1,h2⟩
   · unfold inFs at h
     split at h
     · rename_i hc
       cases acc with
       |none=>simp only [Option.some.injEq]at h;subst h;exact .inr ⟨List.mem_cons_self,hc⟩
       |some z=>
        simp only at h
        split at h
        · simp only [Option.some.injEq]at h;subst h;exact .inr ⟨List.mem_cons_self,hc⟩
        · exact .inl h
     · exact .inl h
   · exact .inr ⟨List.mem_cons_of_mem _ h1,h2⟩
 rcases this l none x h with h|h
 · cases h
 · exact h
def sgf (night as_:Int) (x:TSighting):Bool:=decide (x.Night=night)&&cnt x.Known x.Until as_
def sg (l:List TSighting) (night as_:Int):List TSighting:=l.filter (sgf night as_)
theorem sighted1_eq (x:TSighting) (a b:Int):m_moon_sighted_1 x a b=some (!sgf a b x):=by
 unfold m_moon_sighted_1 sgf
 rw [counts_eq]
 by_cases h:x.Night=a<;>simp [h]
theorem del1_eq (l:List TSighting) (a b:Int):m_slices_DeleteFunc_api_Sighting_api_Sighting__moon_sighted_1 l a b=delF (fun x=>m_moon_sighted_1 x a b) l:=rfl
theorem sighted_eq (s:TSky) (hl:s.Sightings.length≤60) (night as_:Int):m_moon_sighted s night as_=some (sg s.Sightings night as_):=by
 unfold m_moon_sighted m_slices_Clone_api_Sighting_api_Sighting
 rw [gd,if_pos (by omega),Option.bind_some,del1_eq,delF_eq (p:=fun x=> !sgf night as_ x) _ _ (fun x _=>sighted1_eq x night as_) (by omega)]
 simp [sg]
theorem rd_pos {n d:Int} (hd:0<d):0<(rd n d).Den:=(rd_spec hd).choose_spec.2.2.2
theorem rd_idem {n d:Int} (hd:0<d):rd (rd n d).Num (rd n d).Den=rd n d:=by
 obtain⟨g,hg,e1,e2,hp⟩:=rd_spec (n:=n) hd
 refine rd_eq hp hd ?_
 generalize rd n d=p at*
 rw [e1,e2];ac_rfl
theorem rd_neg {n d:Int}:rd (-n) d=⟨-(rd n d).Num,(rd n d).Den⟩:=by
 unfold rd
 rw [Int.natAbs_neg]
 simp only [TFrac.mk.injEq,and_true]
 exact Int.neg_ediv_of_dvd (gcd_dvd_n n d)
theorem rd_le {n d:Int} (hd:0<d):(rd n d).Den≤d:=by
 obtain⟨g,hg,e1,e2,hp⟩:=rd_spec (n:=n) hd
 generalize rd n d=p at*
 have:=Int.mul_le_mul_of_nonneg_right (show(1:Int)≤g by omega) (Int.le_of_lt hp)
 omega
theorem rd_bd {n d B:Int} (hd:0<d) (h: -(B*d)≤n∧n≤B*d): -(B*(rd n d).Den)≤(rd n d).Num∧(rd n d).Num≤B*(rd n d).Den:=by
 obtain⟨g,hg,e1,e2,hp⟩:=rd_spec (n:=n) hd
 generalize rd n d=p at*
 rw [e1,e2]at h
 have a:B*(g*p.Den)=g*(B*p.Den):=by ac_rfl
 rw [a]at h
 constructor
 · refine Int.le_of_mul_le_mul_left ?_ hg
   rw [Int.mul_neg];exact h.1
 · exact Int.le_of_mul_le_mul_left h.2 hg
structure Edge (e:TFrac):Prop where
 den:0<e.Den
 den2:e.Den≤14390000
 lo: -(450*e.Den)≤e.Num
 hi:e.Num≤450*e.Den
 red:rd e.Num e.Den=e
theorem Edge.sm {e:TFrac} (h:Edge e):Sm e:=by obtain⟨_,_,_,_,_⟩:=h;exact⟨by omega,by omega,by omega,by omega⟩
def neg (e:TFrac):TFrac:=⟨-e.Num,e.Den⟩
theorem Edge.neg {e:TFrac} (h:Edge e):Edge (neg e):=by
 obtain⟨h1,h2,h3,h4,h5⟩:=h
 refine⟨h1,h2, ?_, ?_, ?_⟩
 · show-(450*e.Den)≤-e.Num;omega
 · show-e.Num≤450*e.Den;omega
 · show rd (-e.Num) e.Den=_
   rw [rd_neg,h5];rfl
theorem less_edge {s:TSheet} (hs:VSheet s) {t:Int} {h g:TFrac} (ha:At s t h g) {n:Int} (hn:0≤n∧n≤90):Edge (lessF h n):=by
 obtain⟨k,hk,a1,a2,rfl,rfl⟩:=ha.ex
 have so:=hs.segH hk a1 a2
 have hv:=so.vf
 obtain⟨v1,v2,v3,v4⟩:=vf_iff.1 hv
 have hd:(seg s.Rows[k].Height s.Rows[k+1].Height s.Rows[k].Minute s.Rows[k+1].Minute t).Den≤14390000:=Int.le_trans (rd_le so.den.1) so.den.2
 generalize seg s.Rows[k].Height s.Rows[k+1].Height s.Rows[k].Minute s.Rows[k+1].Minute t=p at*
 have p1:n*p.Den≤90*p.Den:=Int.mul_le_mul_of_nonneg_right hn.2 (by omega)
 have p2:0≤n*p.Den:=Int.mul_nonneg hn.1 (by omega)
 have hb:=rd_bd (n:=p.Num-n*p.Den) (d:=p.Den) (B:=450) (by omega) ⟨by omega,by omega⟩
 exact⟨rd_pos (by omega),Int.le_trans (rd_le (by omega)) hd,hb.1,hb.2,rd_idem (by omega)⟩
def mg (s:TSheet) (l:List TRoof) (t:Int):TFrac:=(m_moon_margin s l t).getD ⟨0,1⟩
theorem mg_eq {s:TSheet} (hs:VSheet s) {l:List TRoof} (hl:VRoofs l) {t:Int} (ht:0≤t∧t≤1439):m_moon_margin s l t=some (mg s l t)∧m_R02_margin s l t=some (mg s l t)∧Edge (mg s l t)∧∃h g,At s t h g∧mg s l t=lessF h (hz l g):=by
 obtain⟨h,g,ha,e1,e2⟩:=margin_ex hs hl ht.1 ht.2
 have:mg s l t=lessF h (hz l g):=by unfold mg;rw [e1];rfl
 rw [this]
 exact⟨e1,e2,less_edge hs ha (hz_bd hl.all g),h,g,ha,rfl⟩
def eg (s:TSheet) (l:List TRoof) (t:Int):TFrac:=neg (mg s l t)
theorem minus_eq {e:TFrac} (h:I64 e.Num):m_moon_minus e=some (neg e):=by
 unfold m_moon_minus;rw [W_id (by omega)];simp [neg]
theorem Edge.reduced {e:TFrac} (h:Edge e):m_moon_reduced e=some e:=by
 rw [reduced_eq h.sm.I.1 h.den h.sm.I.2,h.red]
def slS (x:TSheet) (l:List TRoof) (sl:TSlip) (y:TSighting):TSlip:=
 if y.Above=true∧fcmp (eg x l y.Minute) sl.Lo≥0 then⟨eg x l y.Minute,true,sl.Hi⟩
 else if¬y.Above=true∧fcmp (eg x l y.Minute) sl.Hi<0 then⟨sl.Lo,sl.Open,eg x l y.Minute⟩else sl
def off (x:TSheet):TFrac:=rd x.Off.Num x.Off.Den
def slip0 (x:TSheet):TSlip:=⟨neg (off x),false,off x⟩
def slp (x:TSheet) (l:List TRoof) (ys:List TSighting):TSlip:=ys.foldl (slS x l) (slip0 x)
structure ESlip (s:TSlip):Prop where
 lo:Edge s.Lo
 hi:Edge s.Hi
theorem off_edge {x:TSheet} (h:VSheet x):Edge (off x):=by
 obtain⟨v1,v2,v3,v4⟩:=vf_iff.1 h.off
 have hb:=rd_bd (n:=x.Off.Num) (d:=x.Off.Den) (B:=450) (by omega) ⟨by omega,by omega⟩
 exact⟨rd_pos (by omega),Int.le_trans (rd_le (by omega)) (by omega),hb.1,hb.2,rd_idem (by omega)⟩
theorem slS_ok {x:TSheet} (hs:VSheet x) {l:List TRoof} (hl:VRoofs l) {sl:TSlip} (h:ESlip sl) {y:TSighting} (hy:0≤y.Minute∧y.Minute≤1439):ESlip (slS x l sl y):=by
 have he:=(mg_eq hs hl hy).2.2.1.neg
 unfold slS
 split
 · exact⟨he,h.hi⟩
 · split
   · exact⟨h.lo,he⟩
   · exact h
theorem slip0_ok {x:TSheet} (hs:VSheet x):ESlip (slip0 x):=⟨(off_edge hs).neg,off_edge hs⟩
theorem slp_ok {x:TSheet} (hs:VSheet x) {l:List TRoof} (hl:VRoofs l) {ys:List TSighting} (hy:∀y,y∈ys→0≤y.Minute∧y.Minute≤1439):ESlip (slp x l ys):=by
 have:∀(ys:List TSighting) (sl:TSlip),(∀y,y∈ys→0≤y.Minute∧y.Minute≤1439)→ESlip sl→ESlip (ys.foldl (slS x l) sl):=by
  intro ys
  induction ys with
  |nil=>intro sl _ h;exact h
  |cons y ys ih=>intro sl hy h;exact ih _ (fun z hz=>hy z (List.mem_cons_of_mem _ hz)) (slS_ok hs hl h (hy y List.mem_cons_self))
 exact this ys _ hy (slip0_ok hs)
theorem slipOf_eq {k:Tknown} (hs:VSheet k.Sheet) (hl:VRoofs k.roofs) {ys:List TSighting} (hy:∀y,y∈ys→0≤y.Minute∧y.Minute≤1439) (hn:ys.length≤60):m_moon_known_slipOf k ys=some (slp k.Sheet k.roofs ys):=by
 obtain⟨v1,v2,v3,v4⟩:=vf_iff.1 hs.off
 unfold m_moon_known_slipOf
 rw [minus_eq (by omega),Option.bind_some,reduced_eq (x:=neg k.Sheet.Off) (by show I64 (-k.Sheet.Off.Num);omega) (by show 0<k.Sheet.Off.Den;omega) (by show I64 k.Sheet.Off.Den;omega),Option.bind_some,
  reduced_eq (by omega) (by omega) (by omega),Option.bind_some]
 have e0:rd (neg k.Sheet.Off).Num (neg k.Sheet.Off).Den=neg (off k.Sheet):=rd_neg
 rw [e0]
 obtain⟨e,he,hq⟩:=loopF_rule (body:=m_moon_known_slipOf_L1 k ys) (fun st=>∃(j:Nat) (sl:TSlip),j≤ys.length∧ESlip sl∧(ys.drop j).foldl (slS k.Sheet k.roofs) sl=slp k.Sheet k.roofs ys∧st=((j:Int),sl.Lo.Num,sl.Lo.Den,sl.Open,sl.Hi.Num,sl.Hi.Den))
  (fun st=>ys.length-st.1.toNat) (fun st=>∃j:Int,st=(j,(slp k.Sheet k.roofs ys).Lo.Num,(slp k.Sheet k.roofs ys).Lo.Den,(slp k.Sheet k.roofs ys).Open,(slp k.Sheet k.roofs ys).Hi.Num,(slp k.Sheet k.roofs ys).Hi.Den)) (by
  rintro st ⟨j,sl,hj,hes,hf,rfl⟩
  unfold m_moon_known_slipOf_L1
  by_cases hlt:j<ys.length
  · right
    have h1:(j:Int)<(ys.length:Int):=by omega
    rw [foldl_drop hlt]at hf
    have hm:=hy _ (List.getElem_mem hlt)
    obtain⟨e1,_,hE,_⟩:=mg_eq hs hl hm
    refine⟨_, ?_,⟨j+1,slS k.Sheet k.roofs sl ys[j],by omega,slS_ok hs hl hes hm,hf,rfl⟩,by simp only;omega⟩
    have hw:W ((j:Int)+1)=((j+1:Nat):Int):=by rw [W_s (by omega)];rfl
    simp only [h1,decide_true,if_true,idx_nat hlt,Option.bind_some,hw]
    rw [e1,Option.bind_some,minus_eq hE.sm.I.1,Option.bind_some,hE.neg.reduced,Option.bind_some]
    have c1:=compare_eq (x:=eg k.Sheet k.roofs ys[j].Minute) (y:=⟨sl.Lo.Num,sl.Lo.Den⟩) hE.neg.sm hes.lo.sm
    have c2:=compare_eq (x:=eg k.Sheet k.roofs ys[j].Minute) (y:=⟨sl.Hi.Num,sl.Hi.Den⟩) hE.neg.sm hes.hi.sm
    have eeq:neg (mg k.Sheet k.roofs ys[j].Minute)=eg k.Sheet k.roofs ys[j].Minute:=rfl
    simp only [eeq,c1,c2,Option.bind_some]
    unfold slS
    by_cases ha:ys[j].Above=true
    · by_cases hc:fcmp (eg k.Sheet k.roofs ys[j].Minute) sl.Lo≥0
      · simp [ha,hc]
      · simp [ha,hc]
    · by_cases hc:fcmp (eg k.Sheet k.roofs ys[j].Minute) sl.Hi<0
      · simp [ha,hc]
      · simp [ha,hc]
  · left
    have h1:¬(j:Int)<(ys.length:Int):=by omega
    rw [List.drop_of_length_le (by omega)]at hf
    simp only [List.foldl_nil]at hf
    subst hf
    exact⟨_,by simp only [h1,decide_false,Bool.false_eq_true,if_false],j,rfl⟩) (0,(neg (off k.Sheet)).Num,(neg (off k.Sheet)).Den,false,(off k.Sheet).Num,(off k.Sheet).Den) ⟨0,slip0 k.Sheet,by omega,slip0_ok hs,rfl,rfl⟩ (lt_FUEL (by first|omega|(simp only;omega)))
 obtain⟨j,rfl⟩:=hq
 have e1:rd k.Sheet.Off.Num k.Sheet.Off.Den=off k.Sheet:=rfl
 rw [e1,he]
 rfl
def emp (s:TSlip):Bool:=decide (fcmp s.Lo s.Hi>0∨(fcmp s.Lo s.Hi=0∧s.Open=true))
theorem isEmpty_eq {s:TSlip} (h:ESlip s):m_moon_isEmpty s=some (emp s):=by
 unfold m_moon_isEmpty emp
 rw [compare_eq h.lo.sm h.hi.sm,Option.bind_some]
 by_cases h1:fcmp s.Lo s.Hi>0
 · simp [h1]
 · by_cases h2:fcmp s.Lo s.Hi=0
   · cases hO:s.Open<;>simp [h2]
   · simp [h1,h2]
def minsOK (l:List Int):Prop:=∀k (h:k<l.length),(0≤l[k]∧l[k]≤1439)∧∀h0:0<k,l[k-1]≤l[k]
theorem mins_loop (l:List Int) (hl:l.length≤1000):∃e,loopF (m_moon_look_L1 l) 0=some e∧((e= .inl (l.length:Int)∧minsOK l)∨(e= .inr (none,1)∧¬minsOK l)):=by
 refine loopF_rule (fun i:Int=>∃k:Nat,i=k∧k≤l.length∧∀j (h:j<l.length),j<k→(0≤l[j]∧l[j]≤1439)∧∀h0:0<j,l[j-1]≤l[j]) (fun i:Int=>l.length-i.toNat) _ ?_ 0 ⟨0,rfl,by omega,by omega⟩ (lt_FUEL (by omega))
 rintro i ⟨k,rfl,hk,hok⟩
 unfold m_moon_look_L1
 by_cases hlt:k<l.length
 · have h1:(k:Int)<(l.length:Int):=by omega
   simp only [h1,decide_true,if_true,idx_nat hlt,Option.bind_some,isMinute_eq]
   by_cases hv:0≤l[k]∧l[k]≤1439
   · simp only [hv,and_self,decide_true,Bool.not_true,Bool.false_eq_true,if_false]
     by_cases h0:0<k
     · have h2:(k:Int)>0:=by omega
       have hw:W ((k:Int)-1)=((k-1:Nat):Int):=by rw [W_id (by omega)];omega
       have hk1:k-1<l.length:=by omega
       simp only [h2,decide_true,if_true,hw,idx_nat hk1,Option.bind_some]
       by_cases hm:l[k-1]>l[k]
       · left
         refine⟨.inr (none,1),by simp [hm], .inr ⟨rfl,fun h=> ?_⟩⟩
         have:=(h k hlt).2 h0;omega
       · right
         refine⟨W ((k:Int)+1),by simp [hm],⟨k+1,by rw [W_s (by omega)];rfl,by omega,fun j hj hjk=> ?_⟩,by rw [W_s (by omega)];omega⟩
         by_cases e:j=k
         · subst e;exact⟨hv,fun _=>by omega⟩
         · exact hok j hj (by omega)
     · right
       have hk0:(decide ((k:Int)>0))=false:=by simp;omega
       refine⟨W ((k:Int)+1),by rw [hk0];simp,⟨k+1,by rw [W_s (by omega)];rfl,by omega,fun j hj hjk=> ?_⟩,by rw [W_s (by omega)];omega⟩
       obtain rfl:j=k:=by omega
       exact⟨hv,fun h=>by omega⟩
   · left
     refine⟨.inr (none,1),by simp only [hv,decide_false,Bool.not_false,if_true], .inr ⟨rfl,fun h=>hv (h k hlt).1⟩⟩
 · left
   have h1:¬(k:Int)<(l.length:Int):=by omega
   obtain rfl:k=l.length:=by omega
   exact⟨.inl _,by simp, .inl ⟨rfl,fun j hj=>hok j hj hj⟩⟩
noncomputable def lookP (s:TSky) (n a:Int) (mins:List Int):Option Tknown×Int:=
 if¬VSky s then(none,24)else if¬(0≤n∧n≤100000)then(none,6)else if¬(0≤a∧a≤100000)then(none,6)else if¬minsOK mins then(none,1)else
 match inF s.Sheets n a with
 |none=>(none,25)
 |some x=>(some ⟨x,s.Roofs,sg s.Sightings n a,slp x s.Roofs (sg s.Sightings n a)⟩,0)
theorem sg_mem {l:List TSighting} {n a:Int} {y:TSighting} (h:y∈sg l n a):y∈l:=(List.mem_filter.1 h).1
theorem look_eq (s:TSky) (hr:s.Roofs.length≤maxLen) (n a:Int) (mins:List Int) (hl:mins.length≤1000):m_moon_look s n a mins=some (lookP s n a mins):=by
 unfold m_moon_look lookP
 rw [Check_eq s hr,Option.bind_some]
 by_cases h1:VSky s
 rotate_left
 · simp [h1]
 simp only [h1,not_true_eq_false,if_false,if_true,bne_self_eq_false,Bool.false_eq_true,isNight_eq,Option.bind_some]
 by_cases h2:0≤n∧n≤100000
 rotate_left
 · simp only [h2,decide_false,Bool.not_false,if_true,not_false_eq_true]
 by_cases h3:0≤a∧a≤100000
 rotate_left
 · simp only [h2,h3,and_self,decide_true,decide_false,Bool.not_true,Bool.not_false,Bool.false_eq_true,if_false,if_true,not_false_eq_true,not_true_eq_false]
 simp only [h2,h3,and_self,decide_true,Bool.not_true,Bool.false_eq_true,if_false,not_true_eq_false]
 obtain⟨e,he,hq⟩:=mins_loop mins hl
 rw [he,Option.bind_some]
 rcases hq with⟨rfl,hok⟩|⟨rfl,hno⟩
 rotate_left
 · simp [hno]
 simp only [hok,not_true_eq_false,if_false]
 rw [inForce_eq s h1.n1]
 cases hx:inF s.Sheets n a with
 |none=>simp
 |some x=>
  have vx:=h1.sheet (inF_mem hx).1
  have hmin:∀y,y∈sg s.Sightings n a→0≤y.Minute∧y.Minute≤1439:=fun y hy=>(h1.sight (sg_mem hy)).min
  have hlen:(sg s.Sightings n a).length≤60:=Nat.le_trans (List.length_filter_le _ _) h1.n2
  simp only [Option.bind_some,Option.isSome_some,Option.getD_some,Bool.not_true,Bool.false_eq_true,if_false]
  rw [sighted_eq s h1.n2,Option.bind_some,slipOf_eq (k:=⟨x,s.Roofs,sg s.Sightings n a,⟨⟨0,0⟩,false,⟨0,0⟩⟩⟩) vx h1.roofs hmin hlen]
  rfl
structure KOK (k:Tknown):Prop where
 sh:VSheet k.Sheet
 rf:VRoofs k.roofs
 sl:ESlip k.slip
 sg:∀y,y∈k.sightings→0≤y.Minute∧y.Minute≤1439
 n:k.sightings.length≤60
theorem lookP_ok {s:TSky} {n a:Int} {mins:List Int} {k:Tknown} {e:Int} (h:lookP s n a mins=(some k,e)):e=0∧KOK k∧VSky s∧minsOK mins∧∃x,inF s.Sheets n a=some x∧k=⟨x,s.Roofs,sg s.Sightings n a,slp x s.Roofs (sg s.Sightings n a)⟩:=by
 unfold lookP at h
 split at h
 · cases h
 · rename_i h1
   have h1:=Classical.not_not.1 h1
   split at h
   · cases h
   · split at h
     · cases h
     · split at h
       · cases h
       · rename_i hm
         split at h
         · cases h
         · rename_i x hx
           have vx:=h1.sheet (inF_mem hx).1
           have hmin:∀y,y∈sg s.Sightings n a→0≤y.Minute∧y.Minute≤1439:=fun y hy=>(h1.sight (sg_mem hy)).min
           cases h
           exact⟨rfl,⟨vx,h1.roofs,slp_ok vx h1.roofs hmin,hmin,Nat.le_trans (List.length_filter_le _ _) h1.n2⟩,h1,Classical.not_not.1 hm,x,hx,rfl⟩
theorem lookP_none {s:TSky} {n a:Int} {mins:List Int} {e:Int} (h:lookP s n a mins=(none,e)):(e !=0)=true:=by
 unfold lookP at h
 split at h
 · cases h;rfl
 · split at h
   · cases h;rfl
   · split at h
     · cases h;rfl
     · split at h
       · cases h;rfl
       · split at h
         · cases h;rfl
         · cases h
noncomputable def clearP (s:TSky) (n a:Int) (mins:List Int):Option Tknown×Int:=
 match lookP s n a mins with
 |(none,e)=>(none,e)
 |(some k,_)=>if emp k.slip=true then(none,26)else(some k,0)
theorem clearly_eq (s:TSky) (hr:s.Roofs.length≤maxLen) (n a:Int) (mins:List Int) (hl:mins.length≤1000):m_moon_clearly s n a mins=some (clearP s n a mins):=by
 unfold m_moon_clearly clearP
 rw [look_eq s hr n a mins hl]
 cases hk:lookP s n a mins with
 |mk o e=>
  cases o with
  |none=>
   have h:=lookP_none hk
   simp only [bne_iff_ne,ne_eq]at h
   simp [optM,h]
  |some k=>
   obtain⟨rfl,hok,_⟩:=lookP_ok hk
   simp only [Option.bind_some,optM,bne_self_eq_false,Bool.false_eq_true,if_false]
   rw [isEmpty_eq hok.sl,Option.bind_some]
   cases emp k.slip<;>rfl
theorem clearP_none {s:TSky} {n a:Int} {mins:List Int} {e:Int} (h:clearP s n a mins=(none,e)):(e !=0)=true:=by
 unfold clearP at h
 split at h
 · rename_i hk;cases h;exact lookP_none hk
 · split at h
   · cases h;rfl
   · cases h
theorem clearP_ok {s:TSky} {n a:Int} {mins:List Int} {k:Tknown} {e:Int} (h:clearP s n a mins=(some k,e)):e=0∧lookP s n a mins=(some k,0)∧emp k.slip=false:=by
 unfold clearP at h
 split at h
 · cases h
 · rename_i k' e' hk
   obtain⟨rfl,_⟩:=lookP_ok hk
   split at h
   · cases h
   · rename_i hn;cases h;exact⟨rfl,hk,by simpa using hn⟩
theorem Slip_eq (s:TSky) (hr:s.Roofs.length≤maxLen) (n a:Int):m_moon_Slip s n a=some (match clearP s n a []with|(none,e)=>(⟨⟨0,0⟩,false,⟨0,0⟩⟩,e)|(some k,_)=>(k.slip,0)):=by
 unfold m_moon_Slip
 rw [clearly_eq s hr n a [] (by simp)]
 cases hk:clearP s n a []with
 |mk o e=>
  cases o with
  |none=>
   have h:=clearP_none hk
   simp only [bne_iff_ne,ne_eq]at h
   simp [optM,h]
  |some k=>
   obtain⟨rfl,hl,_⟩:=clearP_ok hk
   simp only [Option.bind_some,optM,bne_self_eq_false,Bool.false_eq_true,if_false]
theorem Mod_ex (n:Int) {m:Int} (h0:0<m) (h1:m≤4611686018427387904):∃k,m_R02_Mod n m=some k∧0≤k∧k<m:=by
 have a:=Int.tmod_lt_of_pos n h0
 have b: -m<n.tmod m:=by
  have:=Int.tmod_lt_of_pos (-n) h0
  rw [Int.neg_tmod]at this;omega
 refine⟨(n.tmod m+m).tmod m, ?_,Int.tmod_nonneg _ (by omega),Int.tmod_lt_of_pos _ h0⟩
 unfold m_R02_Mod
 have hne:m≠0:=by omega
 rw [W_id (by omega)]
 simp [gd,hne]
theorem idx_some {α:Type} {l:List α} {k:Nat} {x:α} (h:l[k]?=some x):idx l (k:Int)=some x:=by
 obtain⟨hk,rfl⟩:=List.getElem?_eq_some_iff.1 h
 exact idx_nat hk
theorem okRow_snoc {l:List TRow} {r:TRow} (h:∀k,k<l.length→okRow l k) (v:VRow r) (hp:∀p,0<l.length→l[l.length-1]?=some p→p.Minute<r.Minute∧fcmp p.Bearing r.Bearing≤0):∀k,k<(l++ [r]).length→okRow (l++ [r]) k:=by
 intro k hk
 simp only [List.length_append,List.length_singleton]at hk
 by_cases e:k<l.length
 · obtain⟨x,hx,v,hpp⟩:=h k e
   refine⟨x,by rw [List.getElem?_append_left e];exact hx,v,fun p h0 hp'=>hpp p h0 ?_⟩
   rwa [List.getElem?_append_left (by omega)]at hp'
 · obtain rfl:k=l.length:=by omega
   refine⟨r,by simp,v,fun p h0 hp'=>hp p h0 ?_⟩
   rwa [List.getElem?_append_left (by omega)]at hp'
theorem okSheet_snoc {l:List TSheet} {r:TSheet} (h:∀k,k<l.length→okSheet l k) (v:VSheet r) (hp:∀p,0<l.length→l[l.length-1]?=some p→p.Source<r.Source):∀k,k<(l++ [r]).length→okSheet (l++ [r]) k:=by
 intro k hk
 simp only [List.length_append,List.length_singleton]at hk
 by_cases e:k<l.length
 · obtain⟨x,hx,v,hpp⟩:=h k e
   refine⟨x,by rw [List.getElem?_append_left e];exact hx,v,fun p h0 hp'=>hpp p h0 ?_⟩
   rwa [List.getElem?_append_left (by omega)]at hp'
 · obtain rfl:k=l.length:=by omega
   refine⟨r,by simp,v,fun p h0 hp'=>hp p h0 ?_⟩
   rwa [List.getElem?_append_left (by omega)]at hp'
theorem okSight_snoc {l:List TSighting} {r:TSighting} (h:∀k,k<l.length→okSight l k) (v:VSight r) (hp:∀p,0<l.length→l[l.length-1]?=some p→p.Source<r.Source):∀k,k<(l++ [r]).length→okSight (l++ [r]) k:=by
 intro k hk
 simp only [List.length_append,List.length_singleton]at hk
 by_cases e:k<l.length
 · obtain⟨x,hx,v,hpp⟩:=h k e
   refine⟨x,by rw [List.getElem?_append_left e];exact hx,v,fun p h0 hp'=>hpp p h0 ?_⟩
   rwa [List.getElem?_append_left (by omega)]at hp'
 · obtain rfl:k=l.length:=by omega
   refine⟨r,by simp,v,fun p h0 hp'=>hp p h0 ?_⟩
   rwa [List.getElem?_append_left (by omega)]at hp'
theorem rd_one (n:Int):rd n 1=⟨n,1⟩:=by
 unfold rd
 have:Nat.gcd n.natAbs (1:Int).natAbs=1:=by simp
 rw [this];simp
theorem gd_small {α:Type} {v:List TRow} {r:TRow} (h:v.length≤10) (x:Option α):gd ((v.length+([r]:List TRow).length)*40≤140737488355328∧v.length+([r]:List TRow).length≤9223372036854775807) x=x:=by
 unfold gd;rw [if_pos];simp only [List.length_singleton];omega
structure RowsI (v:List TRow) (k:Nat):Prop where
 n:v.length=k+1
 ok:∀j,j<v.length→okRow v j
 first:∀r,v[0]?=some r→r.Minute=0
 last:∃q,v[k]?=some q∧0≤q.Minute∧q.Minute≤249*k∧q.Bearing.Den=1∧0≤q.Bearing.Num∧q.Bearing.Num≤60+60*k
theorem RowsI.snoc {v:List TRow} {k:Nat} (h:RowsI v k) {q:TRow} (hq:v[k]?=some q) {r:TRow} (vr:VRow r) (h1:q.Minute<r.Minute) (h2:q.Minute+50≤r.Minute∧r.Minute≤q.Minute+249) (h3:r.Bearing.Den=1) (h4:q.Bearing.Num≤r.Bearing.Num∧r.Bearing.Num≤q.Bearing.Num+60):RowsI (v++ [r]) (k+1):=by
 obtain⟨q',hq',a,b,c,d,e⟩:=h.last
 have:q'=q:=by rw [hq]at hq';exact(Option.some.inj hq').symm
 subst this
 refine⟨by simp [h.n],okRow_snoc h.ok vr ?_,fun x hx=> ?_,r,by rw [←h.n];simp,by omega,by push_cast;omega,h3,by omega,by push_cast;omega⟩
 · intro p h0 hp
   rw [h.n]at hp
   have:p=q':=by rw [show k+1-1=k from rfl,hq]at hp;exact(Option.some.inj hp).symm
   subst this
   refine⟨h1,fcmp_le.2 ?_⟩
   rw [c,h3];omega
 · rw [List.getElem?_append_left (by have:=h.n;omega)]at hx
   exact h.first x hx
theorem sm_rd {n d:Int} (hd:0<d) (h2:d≤100) (hn: -1000≤n∧n≤1000):Sm (rd n d)∧(rd n d).Den≤100:=by
 have a:=rd_pos (n:=n) hd
 have b:=rd_le (n:=n) hd
 have c:=rd_bd (n:=n) (B:=1000) hd ⟨by omega,by omega⟩
 exact⟨⟨a,by omega,by omega,by omega⟩,by omega⟩
theorem vrow_of {m:Int} {h b:TFrac} (h1:1≤h.Den∧h.Den≤100) (h2: -(90*h.Den)≤h.Num∧h.Num≤90*h.Den) (b1:b.Den=1) (b2:0≤b.Num∧b.Num<360):VRow ⟨m,h,b⟩:=
 ⟨vf_iff.2 ⟨h1.1,h1.2,by show-(360*h.Den)≤h.Num;omega,by show h.Num≤360*h.Den;omega⟩,h2.1,h2.2,vf_iff.2 ⟨by show 1≤b.Den;omega,by show b.Den≤100;omega,by show-(360*b.Den)≤b.Num;omega,by show b.Num≤360*b.Den;omega⟩,b2.1,by show b.Num<360*b.Den;omega⟩
theorem rows_body (l:List (Int×Int×Int×Int)) (v:List TRow) (k:Nat) (hk:k≤4) (h:RowsI v k):(m_R02_rows_L1 l ((k:Int),v)=some (.inr ((k:Int),v)))∨(k<4∧k<l.length∧∃r,m_R02_rows_L1 l ((k:Int),v)=some (.inl (((k+1:Nat):Int),v++ [r]))∧RowsI (v++ [r]) (k+1)):=by
 unfold m_R02_rows_L1
 by_cases h1:(k:Int)<(l.length:Int)
 rotate_left
 · left;simp only [h1,decide_false,Bool.false_eq_true,if_false]
 by_cases h2:(k:Int)<4
 rotate_left
 · left;simp only [h1,h2,decide_true,if_true,decide_false,Bool.false_eq_true,if_false]
 right
 obtain⟨q,hq,a,b,c,d,e⟩:=h.last
 have hkl:k<l.length:=by omega
 have hw:W ((v.length:Int)-1)=(k:Int):=by rw [h.n,W_id (by omega)];push_cast;omega
 refine⟨by omega,hkl, ?_⟩
 obtain⟨x1,e1,f1,g1⟩:=Mod_ex (l[k]).1 (m:=200) (by omega) (by omega)
 obtain⟨x2,e2,f2,g2⟩:=Mod_ex (l[k]).2.1 (m:=490) (by omega) (by omega)
 obtain⟨x3,e3,f3,g3⟩:=Mod_ex (l[k]).2.2.2 (m:=7) (by omega) (by omega)
 obtain⟨x4,e4,f4,g4⟩:=Mod_ex (l[k]).2.2.1 (m:=60) (by omega) (by omega)
 obtain⟨x5,e5,f5,g5⟩:=Mod_ex (l[k]).2.1 (m:=60) (by omega) (by omega)
 have w1:W (x2-90)=x2-90:=W_id (by omega)
 have w2:W (1+x3)=1+x3:=W_id (by omega)
 have w3:W (q.Bearing.Den*x4)=x4:=by rw [c,W_id (by omega)];omega
 have w4:W (q.Bearing.Num+x4)=q.Bearing.Num+x4:=W_id (by omega)
 have w5:W (q.Minute+50)=q.Minute+50:=W_id (by omega)
 have w6:W (q.Minute+50+x1)=q.Minute+50+x1:=W_id (by omega)
 have w7:W ((k:Int)+1)=((k+1:Nat):Int):=by rw [W_s (by omega)];rfl
 have fr1:m_R02_frac (x2-90) (1+x3)=some (rd (x2-90) (1+x3)):=frac_eq (by omega) (by omega) (by omega)
 have fr2:m_R02_frac (q.Bearing.Num+x4) q.Bearing.Den=some ⟨q.Bearing.Num+x4,1⟩:=by rw [c,frac_eq (by omega) (by omega) (by omega),rd_one]
 obtain⟨sm,sd⟩:=sm_rd (n:=x2-90) (d:=1+x3) (by omega) (by omega) (by omega)
 have sg1:=sign_eq (x:=rd (x2-90) (1+x3)) (y:=⟨90,1⟩) sm (Sm_whole (by omega))
 have sg2:=sign_eq (x:=⟨-90,1⟩) (y:=rd (x2-90) (1+x3)) (Sm_whole (by omega)) sm
 have wh:∀n,m_R02_whole n=some ⟨n,1⟩:=fun n=>rfl
 generalize rd (x2-90) (1+x3)=H at*
 have hl10:v.length≤10:=by have:=h.n;omega
 simp only [h1,h2,decide_true,if_true,hw,idx_some hq,idx_nat hkl,Option.bind_some,e1,e2,e3,e4,e5,w1,w2,w3,w4,w5,w6,w7,fr1,fr2,wh,sg1,sg2,gd_small hl10]
 by_cases c1:fcmp H ⟨90,1⟩>0
 · refine⟨⟨q.Minute+50+x1,⟨x5,1⟩,⟨q.Bearing.Num+x4,1⟩⟩,by simp only [c1,decide_true,if_true],h.snoc hq (vrow_of ⟨by simp,by simp⟩ ⟨by show-(90*1)≤x5;omega,by show x5≤90*1;omega⟩ rfl ⟨by show 0≤q.Bearing.Num+x4;omega,by show q.Bearing.Num+x4<360;omega⟩) ?_ ?_ rfl ?_⟩
   · show q.Minute<q.Minute+50+x1;omega
   · show q.Minute+50≤q.Minute+50+x1∧q.Minute+50+x1≤q.Minute+249;omega
   · show q.Bearing.Num≤q.Bearing.Num+x4∧q.Bearing.Num+x4≤q.Bearing.Num+60;omega
 · by_cases c2:fcmp ⟨-90,1⟩ H>0
   · refine⟨⟨q.Minute+50+x1,⟨x5,1⟩,⟨q.Bearing.Num+x4,1⟩⟩,by simp only [c1,c2,decide_true,decide_false,Bool.false_eq_true,if_false,if_true],h.snoc hq (vrow_of ⟨by simp,by simp⟩ ⟨by show-(90*1)≤x5;omega,by show x5≤90*1;omega⟩ rfl ⟨by show 0≤q.Bearing.Num+x4;omega,by show q.Bearing.Num+x4<360;omega⟩) ?_ ?_ rfl ?_⟩
     · show q.Minute<q.Minute+50+x1;omega
     · show q.Minute+50≤q.Minute+50+x1∧q.Minute+50+x1≤q.Minute+249;omega
     · show q.Bearing.Num≤q.Bearing.Num+x4∧q.Bearing.Num+x4≤q.Bearing.Num+60;omega
   · have d1:=fcmp_le.1 (Int.not_lt.1 c1)
     have d2:=fcmp_le.1 (Int.not_lt.1 c2)
     simp only at d1 d2
     have:=sm.den
     refine⟨⟨q.Minute+50+x1,H,⟨q.Bearing.Num+x4,1⟩⟩,by simp only [c1,c2,decide_false,Bool.false_eq_true,if_false],h.snoc hq (vrow_of ⟨by omega,sd⟩ ⟨by omega,by omega⟩ rfl ⟨by show 0≤q.Bearing.Num+x4;omega,by show q.Bearing.Num+x4<360;omega⟩) ?_ ?_ rfl ?_⟩
     · show q.Minute<q.Minute+50+x1;omega
     · show q.Minute+50≤q.Minute+50+x1∧q.Minute+50+x1≤q.Minute+249;omega
     · show q.Bearing.Num≤q.Bearing.Num+x4∧q.Bearing.Num+x4≤q.Bearing.Num+60;omega
structure VRows (v:List TRow):Prop where
 len:2≤v.length∧v.length≤12
 rows:∀k,k<v.length→okRow v k
 first:∀r,v[0]?=some r→r.Minute=0
 last:∀r,v[v.length-1]?=some r→r.Minute=1439
theorem rows_ex (l:List (Int×Int×Int×Int)):∃v,m_R02_rows l=some v∧VRows v:=by
 have h0:RowsI [(⟨0,⟨-20,1⟩,⟨60,1⟩⟩:TRow)] 0:=by
  refine⟨rfl,fun j hj=> ?_,fun r h=>by simp at h;rw [←h],_,rfl,by simp,by simp,rfl,by simp,by simp⟩
  have:j=0:=by simp at hj;omega
  subst this
  exact⟨_,rfl,vrow_of ⟨by simp,by simp⟩ ⟨by simp,by simp⟩ rfl ⟨by simp,by simp⟩,fun p h=>by omega⟩
 obtain⟨e,he,k,v,hk,hI,rfl⟩:=loopF_rule (body:=m_R02_rows_L1 l) (fun st=>∃(k:Nat) (v:List TRow),k≤4∧RowsI v k∧st=((k:Int),v)) (fun st=>4-st.1.toNat) (fun st=>∃(k:Nat) (v:List TRow),k≤4∧RowsI v k∧st=((k:Int),v)) (by
  rintro st ⟨k,v,hk,hI,rfl⟩
  rcases rows_body l v k hk hI with h|⟨h1,h2,r,h,hI'⟩
  · exact .inl ⟨_,h,k,v,hk,hI,rfl⟩
  · exact .inr ⟨_,h,⟨k+1,_,by omega,hI',rfl⟩,by simp only;omega⟩) (0, [(⟨0,⟨-20,1⟩,⟨60,1⟩⟩:TRow)]) ⟨0,_,by omega,h0,rfl⟩ (lt_FUEL (by simp))
 obtain⟨q,hq,a,b,c,d,e⟩:=hI.last
 have hw:W ((v.length:Int)-1)=(k:Int):=by rw [hI.n,W_id (by omega)];push_cast;omega
 have w3:W (q.Bearing.Den*20)=20:=by rw [c];rfl
 have w4:W (q.Bearing.Num+20)=q.Bearing.Num+20:=W_id (by omega)
 have fr2:m_R02_frac (q.Bearing.Num+20) q.Bearing.Den=some ⟨q.Bearing.Num+20,1⟩:=by rw [c,frac_eq (by omega) (by omega) (by omega),rd_one]
 have hl10:v.length≤10:=by have:=hI.n;omega
 have wh:∀n,m_R02_whole n=some ⟨n,1⟩:=fun n=>rfl
 refine⟨v++ [⟨1439,⟨-10,1⟩,⟨q.Bearing.Num+20,1⟩⟩], ?_, ?_⟩
 · unfold m_R02_rows
   rw [he,Option.bind_some]
   simp only [hw,idx_some hq,Option.bind_some,w3,w4,fr2,wh,gd_small hl10]
 · refine⟨by simp only [List.length_append,List.length_singleton,hI.n];omega,okRow_snoc hI.ok (vrow_of ⟨by simp,by simp⟩ ⟨by simp,by simp⟩ rfl ⟨by show 0≤q.Bearing.Num+20;omega,by show q.Bearing.Num+20<360;omega⟩) ?_,fun x hx=> ?_,fun x hx=> ?_⟩
   · intro p _ hp
     rw [hI.n]at hp
     have:p=q:=by rw [show k+1-1=k from rfl,hq]at hp;exact(Option.some.inj hp).symm
     subst this
     refine⟨by show p.Minute<1439;omega,fcmp_le.2 ?_⟩
     show p.Bearing.Num*1≤(p.Bearing.Num+20)*p.Bearing.Den
     rw [c];omega
   · rw [List.getElem?_append_left (by have:=hI.n;omega)]at hx
     exact hI.first x hx
   · simp at hx;rw [←hx]
theorem gd_len {α β:Type} {v:List β} {r:β} {c:Nat} (hc:c≤1000) (h:v.length≤100) (x:Option α):gd ((v.length+([r]:List β).length)*c≤140737488355328∧v.length+([r]:List β).length≤9223372036854775807) x=x:=by
 unfold gd;rw [if_pos]
 simp only [List.length_singleton]
 have:(v.length+1)*c≤101*1000:=Nat.mul_le_mul (by omega) hc
 omega
structure ShI (v:List TSheet) (k:Nat):Prop where
 n:v.length=k
 ok:∀j,j<v.length→okSheet v j
 src:∀p,p∈v→p.Source<3*k+2
theorem rd_nonneg {n d:Int} (h:0≤n):0≤(rd n d).Num:=Int.ediv_nonneg h (Int.natCast_nonneg _)
theorem off_ok {n d:Int} (hn:0≤n∧n≤39) (hd:1≤d∧d≤9):vf (rd n d) 100=true∧0≤(rd n d).Num∧(rd n d).Num≤90*(rd n d).Den:=by
 have hv:vf ⟨n,d⟩ 100=true:=vf_iff.2 ⟨by show 1≤d;omega,by show d≤100;omega,by show-(360*d)≤n;omega,by show n≤360*d;omega⟩
 have:=rd_bd (n:=n) (d:=d) (B:=90) (by omega) ⟨by omega,by omega⟩
 exact⟨vf_rd hv,rd_nonneg hn.1,this.2⟩
theorem sh_body (r:TRaw) (hbig:r.Rows.length≤4611686018427387904) (w v:List TSheet) (k:Nat) (hk:k≤3) (h:ShI v k):(m_R02_Made_L1 r ((k:Int),w,v)=some (.inr ((k:Int),w,v)))∨(k<3∧∃x,m_R02_Made_L1 r ((k:Int),w,v)=some (.inl (((k+1:Nat):Int),w,v++ [x]))∧ShI (v++ [x]) (k+1)):=by
 unfold m_R02_Made_L1
 by_cases h1:(k:Int)<(r.Sheets.length:Int)
 rotate_left
 · left;simp only [h1,decide_false,Bool.false_eq_true,if_false]
 by_cases h2:(k:Int)<3
 rotate_left
 · left;simp only [h1,h2,decide_true,if_true,decide_false,Bool.false_eq_true,if_false]
 right
 have hkl:k<r.Sheets.length:=by omega
 refine⟨by omega, ?_⟩
 obtain⟨x1,e1,f1,g1⟩:=Mod_ex (r.Sheets[k]).1 (m:=2) (by omega) (by omega)
 obtain⟨x2,e2,f2,g2⟩:=Mod_ex (r.Sheets[k]).2.1 (m:=10) (by omega) (by omega)
 obtain⟨x3,e3,f3,g3⟩:=Mod_ex (r.Sheets[k]).2.2.1 (m:=40) (by omega) (by omega)
 obtain⟨x4,e4,f4,g4⟩:=Mod_ex (W ((r.Sheets[k]).2.2.1.tdiv 40)) (m:=9) (by omega) (by omega)
 obtain⟨x5,e5,f5,g5⟩:=Mod_ex (r.Sheets[k]).2.2.2 (m:=500) (by omega) (by omega)
 obtain⟨x6,e6,f6,g6⟩:=Mod_ex (W ((r.Sheets[k]).2.2.2.tdiv 500)) (m:=400) (by omega) (by omega)
 have w1:W (1+x4)=1+x4:=W_id (by omega)
 have w2:W (3*(k:Int))=3*k:=W_id (by omega)
 have w3:W (3*(k:Int)+2)=3*k+2:=W_id (by omega)
 have w4:W (x1+5)=x1+5:=W_id (by omega)
 have w5:W (x5+x6)=x5+x6:=W_id (by omega)
 have w7:W ((k:Int)+1)=((k+1:Nat):Int):=by rw [W_s (by omega)];rfl
 have fr1:m_R02_frac x3 (1+x4)=some (rd x3 (1+x4)):=frac_eq (by omega) (by omega) (by omega)
 obtain⟨o1,o2,o3⟩:=off_ok (n:=x3) (d:=1+x4) (by omega) (by omega)
 generalize rd x3 (1+x4)=F at*
 have hl:v.length≤100:=by have:=h.n;omega
 have fin:∀rows,VRows rows→ShI (v++ [(⟨3*k+2,x1+5,x2,0,rows,F,⟨x5,x5+x6⟩⟩:TSheet)]) (k+1):=by
  intro rows hr
  refine⟨by simp [h.n],okSheet_snoc h.ok ⟨by show 1≤3*(k:Int)+2∧3*(k:Int)+2≤99999;omega,by show 0≤x1+5∧x1+5≤100000;omega,by show 0≤x2∧x2≤100000;omega, .inl rfl,hr.len,o1,o2,o3,by show 0≤x5∧x5≤x5+x6∧x5+x6≤1000;omega,hr.rows,hr.first,hr.last⟩ (fun p _ hp=> ?_),fun p hp=> ?_⟩
  · exact h.src p (List.mem_of_getElem? hp)
  · rcases List.mem_append.1 hp with h'|h'
    · have:=h.src p h';push_cast;omega
    · obtain rfl:=List.mem_singleton.1 h'
      show 3*(k:Int)+2<_;push_cast;omega
 simp only [h1,h2,decide_true,if_true,idx_nat hkl,Option.bind_some,e1,e2,e3,e4,e5,e6,w1,w2,w3,w4,w5,w7,fr1,gd_len (c:=88) (by omega) hl]
 by_cases h3:(r.Rows.length:Int)>0
 · obtain⟨j,ej,fj,gj⟩:=Mod_ex (k:Int) (m:=(r.Rows.length:Int)) (by omega) (by omega)
   obtain⟨jn,rfl⟩:∃jn:Nat,j=jn:=⟨j.toNat,by omega⟩
   obtain⟨rows,er,hr⟩:=rows_ex (r.Rows[jn]'(by omega))
   refine⟨_, ?_,fin rows hr⟩
   simp only [h3,decide_true,if_true,ej,Option.bind_some,idx_nat (show jn<r.Rows.length by omega),er,gd_len (c:=88) (by omega) hl]
 · obtain⟨rows,er,hr⟩:=rows_ex []
   refine⟨_, ?_,fin rows hr⟩
   simp only [h3,decide_false,Bool.false_eq_true,if_false,er,Option.bind_some,gd_len (c:=88) (by omega) hl]
theorem sheets_made (r:TRaw) (hbig:r.Rows.length≤4611686018427387904):∃i w v,loopF (m_R02_Made_L1 r) (0, [], [])=some (i,w,v)∧v.length≤3∧∀j,j<v.length→okSheet v j:=by
 obtain⟨e,he,k,w,v,hk,hI,rfl⟩:=loopF_rule (body:=m_R02_Made_L1 r) (fun st=>∃(k:Nat) (w v:List TSheet),k≤3∧ShI v k∧st=((k:Int),w,v)) (fun st=>3-st.1.toNat) (fun st=>∃(k:Nat) (w v:List TSheet),k≤3∧ShI v k∧st=((k:Int),w,v)) (by
  rintro st ⟨k,w,v,hk,hI,rfl⟩
  rcases sh_body r hbig w v k hk hI with h|⟨h1,x,h,hI'⟩
  · exact .inl ⟨_,h,k,w,v,hk,hI,rfl⟩
  · exact .inr ⟨_,h,⟨k+1,w,_,by omega,hI',rfl⟩,by simp only;omega⟩) (0, [], []) ⟨0, [], [],by omega,⟨rfl,fun j hj=>by simp at hj,fun p hp=>by simp at hp⟩,rfl⟩ (lt_FUEL (by simp))
 exact⟨_,_,_,he,by have:=hI.n;omega,hI.ok⟩
theorem roof_body (r:TRaw) (v:List TRoof) (k:Nat) (hk:k≤5) (hn:v.length=k) (hv:∀y,y∈v→VRoof y):(m_R02_Made_L2 r ((k:Int),v)=some (.inr ((k:Int),v)))∨(k<5∧∃x,m_R02_Made_L2 r ((k:Int),v)=some (.inl (((k+1:Nat):Int),v++ [x]))∧VRoof x):=by
 unfold m_R02_Made_L2
 by_cases h1:(k:Int)<(r.Roofs.length:Int)
 rotate_left
 · left;simp only [h1,decide_false,Bool.false_eq_true,if_false]
 by_cases h2:(k:Int)<5
 rotate_left
 · left;simp only [h1,h2,decide_true,if_true,decide_false,Bool.false_eq_true,if_false]
 right
 have hkl:k<r.Roofs.length:=by omega
 obtain⟨x1,e1,f1,g1⟩:=Mod_ex (r.Roofs[k]).1 (m:=300) (by omega) (by omega)
 obtain⟨x2,e2,f2,g2⟩:=Mod_ex (r.Roofs[k]).2.1 (m:=59) (by omega) (by omega)
 obtain⟨x3,e3,f3,g3⟩:=Mod_ex (r.Roofs[k]).2.2 (m:=30) (by omega) (by omega)
 have w1:W (x1+1)=x1+1:=W_id (by omega)
 have w2:W (x1+1+x2)=x1+1+x2:=W_id (by omega)
 have w7:W ((k:Int)+1)=((k+1:Nat):Int):=by rw [W_s (by omega)];rfl
 have hl:v.length≤100:=by omega
 refine⟨by omega,⟨x1,x1+1+x2,x3⟩, ?_,⟨by show 0≤x1;omega,by show x1<x1+1+x2;omega,by show x1+1+x2≤360;omega,by show 0≤x3;omega,by show x3≤90;omega⟩⟩
 simp only [h1,h2,decide_true,if_true,idx_nat hkl,Option.bind_some,e1,e2,e3,w1,w2,w7,gd_len (c:=24) (by omega) hl]
theorem roofs_made (r:TRaw):∃i v,loopF (m_R02_Made_L2 r) (0, [])=some (i,v)∧VRoofs v:=by
 obtain⟨e,he,k,v,hk,hn,hv,rfl⟩:=loopF_rule (body:=m_R02_Made_L2 r) (fun st=>∃(k:Nat) (v:List TRoof),k≤5∧v.length=k∧(∀y,y∈v→VRoof y)∧st=((k:Int),v)) (fun st=>5-st.1.toNat) (fun st=>∃(k:Nat) (v:List TRoof),k≤5∧v.length=k∧(∀y,y∈v→VRoof y)∧st=((k:Int),v)) (by
  rintro st ⟨k,v,hk,hn,hv,rfl⟩
  rcases roof_body r v k hk hn hv with h|⟨h1,x,h,hx⟩
  · exact .inl ⟨_,h,k,v,hk,hn,hv,rfl⟩
  · refine .inr ⟨_,h,⟨k+1,_,by omega,by simp [hn],fun y hy=> ?_,rfl⟩,by simp only;omega⟩
    rcases List.mem_append.1 hy with h'|h'
    · exact hv y h'
    · rw [List.mem_singleton.1 h'];exact hx) (0, []) ⟨0, [],by omega,rfl,fun y hy=>by simp at hy,rfl⟩ (lt_FUEL (by simp))
 exact⟨_,_,he,hv,by omega⟩
theorem rinForce_ex (s:TSky) (hl:s.Sheets.length≤60) (n a:Int):∃j:Int,m_R02_inForce s n a=some j∧(j<0∨∃q:Nat,j=q∧q<s.Sheets.length):=by
 obtain⟨e,he,i,j,hj,rfl⟩:=loopF_rule (body:=m_R02_inForce_L1 s n a) (fun st=>∃(k:Nat) (j:Int),k≤s.Sheets.length∧(j<0∨∃q:Nat,j=q∧q<s.Sheets.length)∧st=(j,(k:Int))) (fun st=>s.Sheets.length-st.2.toNat) (fun st=>∃(i j:Int),(j<0∨∃q:Nat,j=q∧q<s.Sheets.length)∧st=(j,i)) (by
  rintro st ⟨k,j,hk,hj,rfl⟩
  unfold m_R02_inForce_L1
  by_cases h1:(k:Int)<(s.Sheets.length:Int)
  rotate_left
  · left;exact⟨(j,(k:Int)),by simp only [h1,decide_false,Bool.false_eq_true,if_false],(k:Int),j,hj,rfl⟩
  right
  have hkl:k<s.Sheets.length:=by omega
  have w7:W ((k:Int)+1)=((k+1:Nat):Int):=by rw [W_s (by omega)];rfl
  simp only [h1,decide_true,if_true,idx_nat hkl,Option.bind_some,rcounts_eq,w7]
  have go:∀j':Int,(j'<0∨∃q:Nat,j'=q∧q<s.Sheets.length)→∃s',some (Sum.inl (j',((k+1:Nat):Int)):Sum (Int×Int) (Int×Int))=some (.inl s')∧(∃(k:Nat) (j:Int),k≤s.Sheets.length∧(j<0∨∃q:Nat,j=q∧q<s.Sheets.length)∧s'=(j,(k:Int)))∧s.Sheets.length-s'.2.toNat<s.Sheets.length-k:=fun j' hj'=>⟨_,rfl,⟨k+1,j',by omega,hj',rfl⟩,by simp only;omega⟩
  split
  · split
    · split
      · exact go _ (.inr ⟨k,rfl,hkl⟩)
      · rename_i hneg
        rcases hj with hj|⟨q,rfl,hq⟩
        · simp [hj]at hneg
        · have:(if(0:Int)>(q:Int)then 0 else(q:Int))=(q:Int):=by rw [if_neg];omega
          rw [this,idx_nat hq,Option.bind_some]
          split
          · exact go _ (.inr ⟨k,rfl,hkl⟩)
          · exact go _ (.inr ⟨q,rfl,hq⟩)
    · exact go _ hj
  · exact go _ hj) (-1,0) ⟨0,-1,by omega, .inl (by omega),rfl⟩ (lt_FUEL (by simp only;omega))
 refine⟨j, ?_,hj⟩
 unfold m_R02_inForce
 rw [he];rfl
theorem sign_ex (x y:TFrac):∃z,m_R02_sign x y=some z:=by
 unfold m_R02_sign;split
 · exact⟨_,rfl⟩
 · split<;>exact⟨_,rfl⟩
theorem True_ex {x:TSheet} (hx:VSheet x) (o:Int):∃f,m_R02_True x o=some f:=by
 obtain⟨k,e,f,g⟩:=Mod_ex o (m:=25) (by omega) (by omega)
 obtain⟨v1,v2,v3,v4⟩:=vf_iff.1 hx.off
 have hb:=mul_bd (a:=x.Off.Num) (b:=k) (A:=36000) (B:=25) ⟨by omega,by omega⟩ ⟨by omega,by omega⟩
 have e2:x.Off.Num*(k-12)=x.Off.Num*k-12*x.Off.Num:=by rw [Int.mul_sub];omega
 refine⟨rd (x.Off.Num*(k-12)) (x.Off.Den*12), ?_⟩
 · unfold m_R02_True
   rw [e,Option.bind_some,W_id (z:=k-12) (by omega),W_id (z:=x.Off.Num*(k-12)) (by omega),W_id (z:=x.Off.Den*12) (by omega),frac_eq (by omega) (by omega) (by omega)];rfl
structure SiI (v:List TSighting) (k:Nat):Prop where
 n:v.length≤k
 ok:∀j,j<v.length→okSight v j
 src:∀p,p∈v→p.Source<5*k+40
theorem SiI.snoc {v:List TSighting} {k:Nat} (hk:k<6) (h:SiI v k) (n m u:Int) (b:Bool) (hn:0≤n∧n≤10) (hm:0≤m∧m≤1439) (hu:0≤u∧u≤100):SiI (v++ [⟨5*k+40,n,m,b,u,0⟩]) (k+1):=by
 refine⟨by have:=h.n;simp;omega,okSight_snoc h.ok ⟨by show 1≤5*(k:Int)+40∧5*(k:Int)+40≤99999;omega,by show 0≤n∧n≤100000;omega,hm,by show 0≤u∧u≤100000;omega, .inl rfl⟩ (fun p _ hp=>h.src p (List.mem_of_getElem? hp)),fun p hp=> ?_⟩
 rcases List.mem_append.1 hp with h'|h'
 · have:=h.src p h';push_cast;omega
 · obtain rfl:=List.mem_singleton.1 h'
   show 5*(k:Int)+40<_;push_cast;omega
theorem sight_body (r:TRaw) (S:List TSheet) (hS:S.length≤3∧∀x,x∈S→VSheet x) (R:List TRoof) (hR:VRoofs R) (w v:List TSighting) (k:Nat) (hk:k≤6) (h:SiI v k):(m_R02_Made_L3 r S R ((k:Int),w,v)=some (.inr ((k:Int),w,v)))∨(k<6∧∃v',m_R02_Made_L3 r S R ((k:Int),w,v)=some (.inl (((k+1:Nat):Int),w,v'))∧SiI v' (k+1)):=by
 unfold m_R02_Made_L3
 by_cases h1:(k:Int)<(r.Sightings.length:Int)
 rotate_left
 · left;simp only [h1,decide_false,Bool.false_eq_true,if_false]
 by_cases h2:(k:Int)<6
 rotate_left
 · left;simp only [h1,h2,decide_true,if_true,decide_false,Bool.false_eq_true,if_false]
 right
 have hkl:k<r.Sightings.length:=by omega
 have hk6:k<6:=by omega
 refine⟨hk6, ?_⟩
 obtain⟨x1,e1,f1,g1⟩:=Mod_ex (r.Sightings[k]).1 (m:=2) (by omega) (by omega)
 obtain⟨x2,e2,f2,g2⟩:=Mod_ex (r.Sightings[k]).2.1 (m:=1440) (by omega) (by omega)
 obtain⟨x3,e3,f3,g3⟩:=Mod_ex (r.Sightings[k]).2.2.2 (m:=20) (by omega) (by omega)
 obtain⟨x4,e4,f4,g4⟩:=Mod_ex (r.Sightings[k]).2.2.1 (m:=9) (by omega) (by omega)
 have w1:W (x1+5)=x1+5:=W_id (by omega)
 have w2:W (5*(k:Int))=5*k:=W_id (by omega)
 have w3:W (5*(k:Int)+40)=5*k+40:=W_id (by omega)
 have w7:W ((k:Int)+1)=((k+1:Nat):Int):=by rw [W_s (by omega)];rfl
 have hl:v.length≤100:=by have:=h.n;omega
 obtain⟨j,ej,hj⟩:=rinForce_ex ⟨S,R,v⟩ (by show S.length≤60;omega) (x1+5) 20
 simp only [h1,h2,decide_true,if_true,idx_nat hkl,Option.bind_some,e1,e2,e3,e4,w1,w2,w3,w7,ej,gd_len (c:=48) (by omega) hl]
 rcases hj with hj|⟨q,rfl,hq⟩
 · refine⟨v,by simp only [hj,decide_true,if_true],by have:=h.n;omega,h.ok,fun p hp=> ?_⟩
   have:=h.src p hp;push_cast;omega
 · have hq:q<S.length:=hq
   have hneg:¬(q:Int)<0:=by omega
   have hv:=hS.2 _ (List.getElem_mem hq)
   obtain⟨f,ef⟩:=True_ex hv r.Off
   obtain⟨_,_,_,_,em⟩:=margin_ex hv hR (t:=x2) (by omega) (by omega)
   have mi:∀x:TFrac,m_R02_minus x=some ⟨W (0-x.Num),x.Den⟩:=fun _=>rfl
   simp only [hneg,decide_false,Bool.false_eq_true,if_false,idx_nat hq,Option.bind_some,ef,em,mi]
   obtain⟨z,ez⟩:=sign_ex f ⟨W (0-(lessF _ (hz R _)).Num),(lessF _ (hz R _)).Den⟩
   rw [ez,Option.bind_some]
   split
   · exact⟨_,rfl,h.snoc hk6 _ _ _ _ (by omega) (by omega) (by omega)⟩
   · exact⟨_,rfl,h.snoc hk6 _ _ _ _ (by omega) (by omega) (by omega)⟩
theorem sights_made (r:TRaw) (S:List TSheet) (hS:S.length≤3∧∀x,x∈S→VSheet x) (R:List TRoof) (hR:VRoofs R):∃i w v,loopF (m_R02_Made_L3 r S R) (0, [], [])=some (i,w,v)∧v.length≤6∧∀j,j<v.length→okSight v j:=by
 obtain⟨e,he,k,w,v,hk,hI,rfl⟩:=loopF_rule (body:=m_R02_Made_L3 r S R) (fun st=>∃(k:Nat) (w v:List TSighting),k≤6∧SiI v k∧st=((k:Int),w,v)) (fun st=>6-st.1.toNat) (fun st=>∃(k:Nat) (w v:List TSighting),k≤6∧SiI v k∧st=((k:Int),w,v)) (by
  rintro st ⟨k,w,v,hk,hI,rfl⟩
  rcases sight_body r S hS R hR w v k hk hI with h|⟨h1,x,h,hI'⟩
  · exact .inl ⟨_,h,k,w,v,hk,hI,rfl⟩
  · exact .inr ⟨_,h,⟨k+1,w,_,by omega,hI',rfl⟩,by simp only;omega⟩) (0, [], []) ⟨0, [], [],by omega,⟨by simp,fun j hj=>by simp at hj,fun p hp=>by simp at hp⟩,rfl⟩ (lt_FUEL (by simp))
 exact⟨_,_,_,he,by have:=hI.n;omega,hI.ok⟩
theorem Made_ex (r:TRaw) (hbig:r.Rows.length≤4611686018427387904):∃s,m_R02_Made r=some s∧VSky s∧s.Sheets.length≤3∧s.Sightings.length≤6:=by
 obtain⟨i1,w1,S,e1,n1,h1⟩:=sheets_made r hbig
 obtain⟨i2,R,e2,h2⟩:=roofs_made r
 have hS:S.length≤3∧∀x,x∈S→VSheet x:=⟨n1,fun x hx=>by
  obtain⟨k,hk,rfl⟩:=List.getElem_of_mem hx
  obtain⟨y,hy,v,_⟩:=h1 k hk
  rw [List.getElem?_eq_getElem hk]at hy
  rw [Option.some.inj hy];exact v⟩
 obtain⟨i3,w3,v,e3,n3,h3⟩:=sights_made r S hS R h2
 refine⟨⟨S,R,v⟩, ?_,⟨by show S.length≤60;omega,by show v.length≤60;omega,h2,h1,h3⟩,n1,n3⟩
 unfold m_R02_Made
 rw [e1,Option.bind_some]
 simp only [e2,e3,Option.bind_some]
theorem VSheet.strict {s:TSheet} (hs:VSheet s) {i j:Nat} (hi:i<s.Rows.length) (hj:j<s.Rows.length) (h:i<j):s.Rows[i].Minute<s.Rows[j].Minute:=by
 have a:=hs.step (k:=i) (by omega)
 have b:=hs.mono (i:=i+1) (j:=j) (by omega) hj (by omega)
 omega
theorem At.row {s:TSheet} (hs:VSheet s) {t:Int} {h g:TFrac} (ha:At s t h g) {i:Nat} (hi:i+1<s.Rows.length) (h1:s.Rows[i].Minute≤t) (h2:t≤s.Rows[i+1].Minute):h=seg s.Rows[i].Height s.Rows[i+1].Height s.Rows[i].Minute s.Rows[i+1].Minute t∧g=seg s.Rows[i].Bearing s.Rows[i+1].Bearing s.Rows[i].Minute s.Rows[i+1].Minute t:=by
 obtain⟨k,hk,a1,a2,rfl,rfl⟩:=ha.ex
 have key:∀(i k:Nat) (hi:i+1<s.Rows.length) (hk:k+1<s.Rows.length),s.Rows[i].Minute≤t→t≤s.Rows[i+1].Minute→s.Rows[k].Minute≤t→t≤s.Rows[k+1].Minute→k<i→seg s.Rows[k].Height s.Rows[k+1].Height s.Rows[k].Minute s.Rows[k+1].Minute t=seg s.Rows[i].Height s.Rows[i+1].Height s.Rows[i].Minute s.Rows[i+1].Minute t∧seg s.Rows[k].Bearing s.Rows[k+1].Bearing s.Rows[k].Minute s.Rows[k+1].Minute t=seg s.Rows[i].Bearing s.Rows[i+1].Bearing s.Rows[i].Minute s.Rows[i+1].Minute t:=by
  intro i k hi hk h1 h2 a1 a2 hlt
  obtain rfl:i=k+1:=by
   rcases Nat.lt_or_ge (k+1) i with hc|hc
   · have:=hs.strict (i:=k+1) (j:=i) (by omega) (by omega) hc;omega
   · omega
  obtain rfl:t=s.Rows[k+1].Minute:=by omega
  have p1:=hs.segH hk a1 a2
  have p2:=hs.segB hk a1 a2
  have p3:=hs.segH hi h1 h2
  have p4:=hs.segB hi h1 h2
  rw [seg_end p1,seg_end p2,seg_start p3,seg_start p4];exact⟨rfl,rfl⟩
 rcases Nat.lt_trichotomy k i with hc|rfl|hc
 · exact key i k hi hk h1 h2 a1 a2 hc
 · exact⟨rfl,rfl⟩
 · obtain⟨e1,e2⟩:=key k i hk hi a1 a2 h1 h2 hc
   exact⟨e1.symm,e2.symm⟩
theorem clash_eq {k:Tknown} (hk:KOK k) {l:List TSighting} (hl:∀y,y∈l→y∈k.sightings) (hn:l.length≤60):m_moon_known_clash k l=some (emp (slp k.Sheet k.roofs l)):=by
 have hm:∀y,y∈l→0≤y.Minute∧y.Minute≤1439:=fun y hy=>hk.sg y (hl y hy)
 unfold m_moon_known_clash
 rw [slipOf_eq hk.sh hk.rf hm hn,Option.bind_some,isEmpty_eq (slp_ok hk.sh hk.rf hm)];rfl
def conf (k:Tknown):Option (List Int×Int):=
 Option.bind (loopF (m_moon_Conflict_L1 k) 0) fun e=>match e with
  | .inl _=>Option.bind (loopF (m_moon_Conflict_L4 k) 0) fun e=>match e with| .inl _=>some ([],27)| .inr r=>some r
  | .inr r=>some r
theorem Conflict_eq (s:TSky) (hr:s.Roofs.length≤maxLen) (n a:Int):m_moon_Conflict s n a=match lookP s n a []with|(none,e)=>some ([],e)|(some k,_)=>conf k:=by
 unfold m_moon_Conflict
 rw [look_eq s hr n a [] (by simp)]
 cases hk:lookP s n a []with
 |mk o e=>
  cases o with
  |none=>
   have h:=lookP_none hk
   simp only [bne_iff_ne,ne_eq]at h
   simp [optM,h]
  |some k=>
   obtain⟨rfl,_⟩:=lookP_ok hk
   simp only [Option.bind_some,optM,bne_self_eq_false,Bool.false_eq_true,if_false]
   rfl
theorem sights_pair {l:List TSighting}:(∀k,k<l.length→okSight l k)↔(∀x,x∈l→VSight x)∧l.Pairwise (fun a b=>a.Source<b.Source):=by
 constructor
 · intro h
   have at_:∀k (hk:k<l.length),VSight l[k]∧∀h0:0<k,l[k-1].Source<l[k].Source:=by
    intro k hk
    obtain⟨x,hx,v,hp⟩:=h k hk
    rw [List.getElem?_eq_getElem hk]at hx
    rw [Option.some.inj hx]
    exact⟨v,fun h0=>hp _ h0 (List.getElem?_eq_getElem (by omega))⟩
   refine⟨fun x hx=> ?_,List.pairwise_iff_getElem.2 ?_⟩
   · obtain⟨k,hk,rfl⟩:=List.getElem_of_mem hx
     exact(at_ k hk).1
   · intro i j hi hj hij
     induction j with
     |zero=>omega
     |succ j ih=>
      have h1:=(at_ (j+1) hj).2 (by omega)
      have h1:l[j].Source<l[j+1].Source:=h1
      rcases Nat.lt_or_ge i j with hc|hc
      · exact Int.lt_trans (ih (by omega) hc) h1
      · obtain rfl:i=j:=by omega
        exact h1
 · rintro⟨hv,hp⟩ k hk
   refine⟨l[k],List.getElem?_eq_getElem hk,hv _ (List.getElem_mem hk),fun p h0 hp'=> ?_⟩
   rw [List.getElem?_eq_getElem (by omega)]at hp'
   rw [←Option.some.inj hp']
   exact List.pairwise_iff_getElem.1 hp _ _ _ _ (by omega)
theorem div_lt_div {a b c d:Int} (hb:0<b) (hd:0<d):(a:Rat) / b<(c:Rat) / d↔a*d<c*b:=by
 have hb':(0:Rat)<(b:Rat):=by exact_mod_cast hb
 have hd':(0:Rat)<(d:Rat):=by exact_mod_cast hd
 rw [Rat.div_lt_iff hb',←Rat.intCast_lt_intCast,Rat.intCast_mul,Rat.intCast_mul]
 have:(c:Rat) / d*b=(c*b) / d:=by grind
 rw [this,Rat.lt_div_iff hd']
noncomputable def qf (x:TFrac):Rat:=(x.Num:Rat) / (x.Den:Rat)
theorem q_lt {x y:TFrac} (hx:0<x.Den) (hy:0<y.Den):fcmp x y<0↔qf x<qf y:=by rw [fcmp_lt];exact(div_lt_div hx hy).symm
theorem q_gt {x y:TFrac} (hx:0<x.Den) (hy:0<y.Den):fcmp x y>0↔qf y<qf x:=by
 rw [←q_lt hy hx,fcmp_anti];omega
theorem q_eq {x y:TFrac} (hx:0<x.Den) (hy:0<y.Den):fcmp x y=0↔qf x=qf y:=by
 have h1:=q_lt hx hy
 have h2:=q_gt hx hy
 have h3:fcmp x y=0↔¬fcmp x y<0∧¬fcmp x y>0:=by omega
 rw [h3,h1,h2]
 constructor
 · intro h;grind
 · intro h;grind
theorem emp_q {s:TSlip} (h:ESlip s):emp s=true↔qf s.Hi<qf s.Lo∨(qf s.Lo=qf s.Hi∧s.Open=true):=by
 unfold emp
 rw [decide_eq_true_iff,q_gt h.lo.den h.hi.den,q_eq h.lo.den h.hi.den]
theorem slS_q {x:TSheet} (hx:VSheet x) {l:List TRoof} (hl:VRoofs l) {S:TSlip} (h:ESlip S) {y:TSighting} (hy:0≤y.Minute∧y.Minute≤1439):
 slS x l S y=if y.Above=true∧qf S.Lo≤qf (eg x l y.Minute)then⟨eg x l y.Minute,true,S.Hi⟩else if¬y.Above=true∧qf (eg x l y.Minute)<qf S.Hi then⟨S.Lo,S.Open,eg x l y.Minute⟩else S:=by
 have he:Edge (eg x l y.Minute):=(mg_eq hx hl hy).2.2.1.neg
 have c1:fcmp (eg x l y.Minute) S.Lo≥0↔qf S.Lo≤qf (eg x l y.Minute):=by
  have:=q_lt he.den h.lo.den
  constructor
  · intro h;have:¬qf (eg x l y.Minute)<qf S.Lo:=fun h'=>by have:=this.2 h';omega
    grind
  · intro h;have:¬fcmp (eg x l y.Minute) S.Lo<0:=fun h'=>by have:=this.1 h';grind
    omega
 have c2:=q_lt he.den h.hi.den
 unfold slS
 by_cases h1:y.Above=true∧qf S.Lo≤qf (eg x l y.Minute)
 · rw [if_pos h1,if_pos ⟨h1.1,c1.2 h1.2⟩]
 · rw [if_neg h1,if_neg (fun h=>h1 ⟨h.1,c1.1 h.2⟩)]
   by_cases h2:¬y.Above=true∧qf (eg x l y.Minute)<qf S.Hi
   · rw [if_pos h2,if_pos ⟨h2.1,c2.2 h2.2⟩]
   · rw [if_neg h2,if_neg (fun h=>h2 ⟨h.1,c2.1 h.2⟩)]
structure SlpS (x:TSheet) (l:List TRoof) (ys:List TSighting) (S:TSlip):Prop where
 ok:ESlip S
 lo:(S.Lo=neg (off x)∧S.Open=false)∨∃y,y∈ys∧y.Above=true∧S.Lo=eg x l y.Minute∧S.Open=true
 hi:S.Hi=off x∨∃y,y∈ys∧¬y.Above=true∧S.Hi=eg x l y.Minute
 lo0:qf (neg (off x))≤qf S.Lo
 hi0:qf S.Hi≤qf (off x)
 loY:∀y,y∈ys→y.Above=true→qf (eg x l y.Minute)<qf S.Lo∨(qf (eg x l y.Minute)=qf S.Lo∧S.Open=true)
 hiY:∀y,y∈ys→¬y.Above=true→qf S.Hi≤qf (eg x l y.Minute)
theorem slp_step {x:TSheet} (hx:VSheet x) {l:List TRoof} (hl:VRoofs l) {ys:List TSighting} {S:TSlip} (h:SlpS x l ys S) {y:TSighting} (hy:0≤y.Minute∧y.Minute≤1439):SlpS x l (ys++ [y]) (slS x l S y):=by
 have he:Edge (eg x l y.Minute):=(mg_eq hx hl hy).2.2.1.neg
 have hok:=slS_ok hx hl h.ok hy
 obtain⟨h1,h2,h3,h4,h5,h6,h7⟩:=h
 rw [slS_q hx hl h1 hy]at hok⊢
 by_cases ha:y.Above=true∧qf S.Lo≤qf (eg x l y.Minute)
 · rw [if_pos ha]at hok⊢
   refine⟨hok, .inr ⟨y,by simp,ha.1,rfl,rfl⟩, ?_,by simp only;grind,h5, ?_, ?_⟩
   · rcases h3 with h|⟨z,hz,q1,q2⟩
     · exact .inl h
     · exact .inr ⟨z,by simp [hz],q1,q2⟩
   · intro z hz za
     rcases List.mem_append.1 hz with hz|hz
     · rcases h6 z hz za with q|⟨q,_⟩
       · simp only;grind
       · simp only;grind
     · rw [List.mem_singleton.1 hz];exact .inr ⟨rfl,rfl⟩
   · intro z hz za
     rcases List.mem_append.1 hz with hz|hz
     · exact h7 z hz za
     · rw [List.mem_singleton.1 hz]at za;exact absurd ha.1 za
 · rw [if_neg ha]at hok⊢
   by_cases hb:¬y.Above=true∧qf (eg x l y.Minute)<qf S.Hi
   · rw [if_pos hb]at hok⊢
     refine⟨hok, ?_, .inr ⟨y,by simp,hb.1,rfl⟩,h4,by simp only;grind, ?_, ?_⟩
     · rcases h2 with h|⟨z,hz,q1,q2⟩
       · exact .inl h
       · exact .inr ⟨z,by simp [hz],q1,q2⟩
     · intro z hz za
       rcases List.mem_append.1 hz with hz|hz
       · exact h6 z hz za
       · rw [List.mem_singleton.1 hz]at za;exact absurd za hb.1
     · intro z hz za
       rcases List.mem_append.1 hz with hz|hz
       · have:=h7 z hz za
         simp only;grind
       · rw [List.mem_singleton.1 hz];exact Rat.le_refl
   · rw [if_neg hb]at hok⊢
     refine⟨hok, ?_, ?_,h4,h5, ?_, ?_⟩
     · rcases h2 with h|⟨z,hz,q1,q2⟩
       · exact .inl h
       · exact .inr ⟨z,by simp [hz],q1,q2⟩
     · rcases h3 with h|⟨z,hz,q1,q2⟩
       · exact .inl h
       · exact .inr ⟨z,by simp [hz],q1,q2⟩
     · intro z hz za
       rcases List.mem_append.1 hz with hz|hz
       · exact h6 z hz za
       · rw [List.mem_singleton.1 hz]at za⊢
         have:¬qf S.Lo≤qf (eg x l y.Minute):=fun h=>ha ⟨za,h⟩
         left;grind
     · intro z hz za
       rcases List.mem_append.1 hz with hz|hz
       · exact h7 z hz za
       · rw [List.mem_singleton.1 hz]at za⊢
         have:¬qf (eg x l y.Minute)<qf S.Hi:=fun h=>hb ⟨za,h⟩
         grind
theorem off_ge {x:TSheet} (hx:VSheet x):0≤(off x).Num:=by
 obtain⟨v1,_⟩:=vf_iff.1 hx.off
 obtain⟨g,hg,e1,e2,hp⟩:=rd_spec (n:=x.Off.Num) (d:=x.Off.Den) (by omega)
 have h0:=hx.off0
 show 0≤(rd x.Off.Num x.Off.Den).Num
 generalize rd x.Off.Num x.Off.Den=p at*
 rw [e1]at h0
 exact Int.nonneg_of_mul_nonneg_right h0 hg
theorem slip0_S {x:TSheet} (hx:VSheet x) (l:List TRoof):SlpS x l [] (slip0 x):=
 ⟨slip0_ok hx, .inl ⟨rfl,rfl⟩, .inl rfl,Rat.le_refl,Rat.le_refl,fun y hy=>by simp at hy,fun y hy=>by simp at hy⟩
theorem slp_S {x:TSheet} (hx:VSheet x) {l:List TRoof} (hl:VRoofs l) {ys:List TSighting} (hy:∀y,y∈ys→0≤y.Minute∧y.Minute≤1439):SlpS x l ys (slp x l ys):=by
 have:∀(ys pre:List TSighting) (S:TSlip),SlpS x l pre S→(∀y,y∈ys→0≤y.Minute∧y.Minute≤1439)→SlpS x l (pre++ys) (ys.foldl (slS x l) S):=by
  intro ys
  induction ys with
  |nil=>intro pre S h _;simpa using h
  |cons y ys ih=>
   intro pre S h hy
   have h1:=slp_step hx hl h (hy y List.mem_cons_self)
   have h2:=ih _ _ h1 fun z hz=>hy z (List.mem_cons_of_mem _ hz)
   simpa using h2
 exact this ys [] _ (slip0_S hx l) hy
theorem emp_mono {x:TSheet} (hx:VSheet x) {l:List TRoof} (hl:VRoofs l) {ys zs:List TSighting} (hz:∀y,y∈zs→0≤y.Minute∧y.Minute≤1439) (hs:∀y,y∈ys→y∈zs) (he:emp (slp x l ys)=true):emp (slp x l zs)=true:=by
 have A:=slp_S hx hl (ys:=ys) fun y hy=>hz y (hs y hy)
 have B:=slp_S hx hl hz
 rw [emp_q A.ok]at he
 rw [emp_q B.ok]
 have k1:qf (slp x l ys).Lo<qf (slp x l zs).Lo∨(qf (slp x l ys).Lo=qf (slp x l zs).Lo∧((slp x l ys).Open=true→(slp x l zs).Open=true)):=by
  rcases A.lo with⟨h1,h2⟩|⟨y,hy,ya,h1,h2⟩
  · rw [h1,h2]
    have:=B.lo0
    simp only [Bool.false_eq_true,false_implies,and_true]
    grind
  · rw [h1]
    rcases B.loY y (hs y hy) ya with h|⟨h,h'⟩
    · exact .inl h
    · exact .inr ⟨h,fun _=>h'⟩
 have k2:qf (slp x l zs).Hi≤qf (slp x l ys).Hi:=by
  rcases A.hi with h1|⟨y,hy,ya,h1⟩
  · rw [h1];exact B.hi0
  · rw [h1];exact B.hiY y (hs y hy) ya
 rcases he with he|⟨he,ho⟩
 · left;rcases k1 with h|⟨h,_⟩<;>grind
 · rcases k1 with h|⟨h,h'⟩
   · left;grind
   · have:=h' ho
     by_cases hc:qf (slp x l zs).Hi<qf (slp x l zs).Lo
     · exact .inl hc
     · exact .inr ⟨by grind,this⟩
theorem emp_nil {x:TSheet} (hx:VSheet x) (l:List TRoof):emp (slp x l [])=false:=by
 have h:=slip0_ok hx
 have h0:=off_ge hx
 have hd:=h.hi.den
 have hd:0<(off x).Den:=hd
 rw [Bool.eq_false_iff]
 intro he
 rw [show slp x l []=slip0 x from rfl,emp_q h]at he
 have e1:(slip0 x).Open=false:=rfl
 have e2:(slip0 x).Lo=neg (off x):=rfl
 have e3:(slip0 x).Hi=off x:=rfl
 rw [e1,e2,e3]at he
 have he:qf (off x)<qf (neg (off x)):=by rcases he with h|⟨_,h⟩;exact h;cases h
 have h2:=(div_lt_div hd (show 0<(neg (off x)).Den from hd)).1 he
 have h3:(off x).Num*(off x).Den< -(off x).Num*(off x).Den:=h2
 have h4:0≤(off x).Num*(off x).Den:=Int.mul_nonneg h0 (by omega)
 rw [Int.neg_mul]at h3
 omega
theorem emp_two {x:TSheet} (hx:VSheet x) {l:List TRoof} (hl:VRoofs l) {ys:List TSighting} (hy:∀y,y∈ys→0≤y.Minute∧y.Minute≤1439) (he:emp (slp x l ys)=true):(∃y,y∈ys∧emp (slp x l [y])=true)∨∃y z,y∈ys∧z∈ys∧y≠z∧emp (slp x l [y,z])=true:=by
 have A:=slp_S hx hl hy
 rw [emp_q A.ok]at he
 rcases A.lo with⟨h1,h2⟩|⟨y,my,ya,h1,h2⟩
 · rcases A.hi with h3|⟨z,mz,za,h3⟩
   · exfalso
     have h0:=emp_nil hx l
     have h4:¬emp (slp x l [])=true:=by rw [h0];simp
     apply h4
     rw [show slp x l []=slip0 x from rfl,emp_q (slip0_ok hx)]
     rw [h1,h2,h3]at he
     exact he
   · left
     refine⟨z,mz, ?_⟩
     have B:=slp_S hx hl (ys:= [z]) fun y h=>by rw [List.mem_singleton.1 h];exact hy z mz
     rw [emp_q B.ok]
     rw [h1,h2,h3]at he
     have:=B.lo0
     have:=B.hiY z (by simp) za
     simp only [Bool.false_eq_true,and_false,or_false]at he
     left;grind
 · rcases A.hi with h3|⟨z,mz,za,h3⟩
   · left
     refine⟨y,my, ?_⟩
     have B:=slp_S hx hl (ys:= [y]) fun w h=>by rw [List.mem_singleton.1 h];exact hy y my
     rw [emp_q B.ok]
     rw [h1,h3]at he
     have b1:=B.hi0
     rcases B.loY y (by simp) ya with b|⟨b,b'⟩
     · left;rcases he with h|⟨h,_⟩<;>grind
     · by_cases hc:qf (slp x l [y]).Hi<qf (slp x l [y]).Lo
       · exact .inl hc
       · refine .inr ⟨?_,b'⟩
         rcases he with h|⟨h,_⟩<;>grind
   · right
     refine⟨y,z,my,mz,fun e=>za (e▸ya), ?_⟩
     have B:=slp_S hx hl (ys:= [y,z]) fun w h=>by
      simp only [List.mem_cons,List.not_mem_nil,or_false]at h
      rcases h with rfl|rfl
      · exact hy _ my
      · exact hy _ mz
     rw [emp_q B.ok]
     rw [h1,h3]at he
     have b1:=B.hiY z (by simp) za
     rcases B.loY y (by simp) ya with b|⟨b,b'⟩
     · left;rcases he with h|⟨h,_⟩<;>grind
     · by_cases hc:qf (slp x l [y,z]).Hi<qf (slp x l [y,z]).Lo
       · exact .inl hc
       · refine .inr ⟨?_,b'⟩
         rcases he with h|⟨h,_⟩<;>grind
theorem pl_sane:m_L02_sane=some true:=by decide+kernel
theorem emp_le {k:Tknown} (hk:KOK k) {ys zs:List TSighting} (hz:∀y,y∈zs→y∈k.sightings) (hs:∀y,y∈ys→y∈zs) (he:emp (slp k.Sheet k.roofs ys)=true):emp (slp k.Sheet k.roofs zs)=true:=
 emp_mono hk.sh hk.rf (fun y hy=>hk.sg y (hz y hy)) hs he
theorem reach_len {n c:Nat} (hc:1≤c) (h:n*c≤reachBytes):n≤4611686018427387904:=by
 have:n*1≤n*c:=Nat.mul_le_mul_left n hc
 unfold reachBytes at h;omega
theorem find_loop {R:Type} {body:Int→Option (Sum Int (Sum Int R))} (n:Nat) (hn:n≤1000) (q:Nat→Option R)
 (h:∀i,i<n→body (i:Int)=some (match q i with|some r=> .inr (.inr r)|none=> .inl ((i:Int)+1)))
 (he:body (n:Int)=some (.inr (.inl (n:Int)))):(∃i r,i<n∧q i=some r∧(∀j,j<i→q j=none)∧loopF body 0=some (.inr r))∨((∀j,j<n→q j=none)∧loopF body 0=some (.inl (n:Int))):=by
 obtain⟨e,he,p⟩:=loopF_rule (body:=body) (fun i=>∃k:Nat,i=k∧k≤n∧∀j,j<k→q j=none) (fun i=>n-i.toNat) (fun e=>(∃i r,i<n∧q i=some r∧(∀j,j<i→q j=none)∧e= .inr r)∨((∀j,j<n→q j=none)∧e= .inl (n:Int))) (by
  rintro _ ⟨k,rfl,hk,hq⟩
  by_cases hkn:k<n
  · rw [h k hkn]
    cases hqk:q k with
    |some r=>left;exact⟨_,rfl, .inl ⟨k,r,hkn,hqk,hq,rfl⟩⟩
    |none=>
     right
     refine⟨_,rfl,⟨k+1,rfl,by omega,fun j hj=> ?_⟩,by omega⟩
     by_cases e:j=k
     · rw [e];exact hqk
     · exact hq j (by omega)
  · obtain rfl:k=n:=by omega
    left;exact⟨_,he, .inr ⟨hq,rfl⟩⟩) 0 ⟨0,rfl,by omega,fun j hj=>by omega⟩ (lt_FUEL (by omega))
 rcases p with⟨i,r,a,b,c,rfl⟩|⟨a,rfl⟩
 · exact .inl ⟨i,r,a,b,c,he⟩
 · exact .inr ⟨a,he⟩
theorem index_src (l:List TSighting) (hl:l.length≤60) (c:Int):(∃(i:Nat) (h:i<l.length),l[i].Source=c∧m_slices_IndexFunc_api_Sighting_api_Sighting__moon_CheckConflict_1 l c=some (i:Int))∨((∀y,y∈l→y.Source≠c)∧m_slices_IndexFunc_api_Sighting_api_Sighting__moon_CheckConflict_1 l c=some (-1)):=by
 let q:Nat→Option Int:=fun i=>match l[i]? with|some y=>if y.Source=c then some (i:Int)else none|none=>none
 have hf:=find_loop (body:=m_slices_IndexFunc_api_Sighting_api_Sighting__moon_CheckConflict_1_L1 l c) l.length (by omega) q (fun i hi=>by
  have h1:((i:Int)<(l.length:Int))=True:=eq_true (by omega)
  have hq:q i=if l[i].Source=c then some (i:Int)else none:=by
   show(match l[i]? with|some y=>if y.Source=c then some (i:Int)else none|none=>none)=_
   rw [List.getElem?_eq_getElem hi]
  unfold m_slices_IndexFunc_api_Sighting_api_Sighting__moon_CheckConflict_1_L1 m_moon_CheckConflict_1
  rw [hq]
  simp only [h1,decide_true,if_true,idx_nat hi,Option.bind_some,W_s (show i<9223372036854775807 by omega)]
  by_cases e:l[i].Source=c<;>simp [e]) (by simp [m_slices_IndexFunc_api_Sighting_api_Sighting__moon_CheckConflict_1_L1])
 unfold m_slices_IndexFunc_api_Sighting_api_Sighting__moon_CheckConflict_1
 rcases hf with⟨i,r,hi,hq,_,e⟩|⟨hq,e⟩
 · left
   have hq':(match l[i]? with|some y=>if y.Source=c then some (i:Int)else none|none=>none)=some r:=hq
   rw [List.getElem?_eq_getElem hi]at hq'
   simp only at hq'
   split at hq'
   · rename_i hs
     cases hq'
     exact⟨i,hi,hs,by rw [e];rfl⟩
   · cases hq'
 · right
   refine⟨fun y hy hs=> ?_,by rw [e];rfl⟩
   obtain⟨j,hj,rfl⟩:=List.getElem_of_mem hy
   have hq':(match l[j]? with|some y=>if y.Source=c then some (j:Int)else none|none=>none)=none:=hq j hj
   rw [List.getElem?_eq_getElem hj]at hq'
   simp [hs]at hq'
theorem conf_spec {k:Tknown} (hk:KOK k):(∃(i:Nat) (h:i<k.sightings.length),emp (slp k.Sheet k.roofs [k.sightings[i]])=true∧conf k=some ([k.sightings[i].Source],0))∨
 ((∀y,y∈k.sightings→emp (slp k.Sheet k.roofs [y])=false)∧((∃(i j:Nat) (hi:i<k.sightings.length) (hj:j<k.sightings.length),i<j∧emp (slp k.Sheet k.roofs [k.sightings[i],k.sightings[j]])=true∧conf k=some ([k.sightings[i].Source,k.sightings[j].Source],0))∨
  ((∀(i j:Nat) (hi:i<k.sightings.length) (hj:j<k.sightings.length),i<j→emp (slp k.Sheet k.roofs [k.sightings[i],k.sightings[j]])=false)∧conf k=some ([],27)))):=by
 have hn:=hk.n
 let q:Nat→Option (List Int×Int):=fun i=>match k.sightings[i]? with|some y=>if emp (slp k.Sheet k.roofs [y])=true then some ([y.Source],0)else none|none=>none
 have h1:=find_loop (body:=m_moon_Conflict_L1 k) k.sightings.length (by omega) q (fun i hi=>by
  have h1:((i:Int)<(k.sightings.length:Int))=True:=eq_true (by omega)
  have hq:q i=if emp (slp k.Sheet k.roofs [k.sightings[i]])=true then some ([k.sightings[i].Source],0)else none:=by
   show(match k.sightings[i]? with|some y=>if emp (slp k.Sheet k.roofs [y])=true then some ([y.Source],(0:Int))else none|none=>none)=_
   rw [List.getElem?_eq_getElem hi]
  unfold m_moon_Conflict_L1
  rw [hq]
  simp only [h1,decide_true,if_true,idx_nat hi,Option.bind_some,W_s (show i<9223372036854775807 by omega)]
  rw [clash_eq hk (l:= [k.sightings[i]]) (fun y hy=>by rw [List.mem_singleton.1 hy];exact List.getElem_mem hi) (by simp),Option.bind_some]
  by_cases e:emp (slp k.Sheet k.roofs [k.sightings[i]])=true<;>simp [e]) (by simp [m_moon_Conflict_L1])
 rcases h1 with⟨i,r,hi,hq,_,e⟩|⟨hq,e⟩
 · left
   have hq':(match k.sightings[i]? with|some y=>if emp (slp k.Sheet k.roofs [y])=true then some ([y.Source],(0:Int))else none|none=>none)=some r:=hq
   rw [List.getElem?_eq_getElem hi]at hq'
   simp only at hq'
   split at hq'
   · rename_i hs
     cases hq'
     exact⟨i,hi,hs,by unfold conf;rw [e];rfl⟩
   · cases hq'
 · right
   have hall:∀y,y∈k.sightings→emp (slp k.Sheet k.roofs [y])=false:=fun y hy=>by
    obtain⟨j,hj,rfl⟩:=List.getElem_of_mem hy
    have hq':(match k.sightings[j]? with|some y=>if emp (slp k.Sheet k.roofs [y])=true then some ([y.Source],(0:Int))else none|none=>none)=none:=hq j hj
    rw [List.getElem?_eq_getElem hj]at hq'
    simp only at hq'
    split at hq'
    · cases hq'
    · rename_i hs;simpa using hs
   refine⟨hall, ?_⟩
   have inner:∀(a:Nat) (ha:a<k.sightings.length),(∃(j:Nat) (hj:j<k.sightings.length),a<j∧emp (slp k.Sheet k.roofs [k.sightings[a],k.sightings[j]])=true∧loopF (m_moon_Conflict_L5 k k.sightings[a] (sub k.sightings (a+1) k.sightings.length)) 0=some (.inr ([k.sightings[a].Source,k.sightings[j].Source],0)))∨
    ((∀(j:Nat) (hj:j<k.sightings.length),a<j→emp (slp k.Sheet k.roofs [k.sightings[a],k.sightings[j]])=false)∧∃z,loopF (m_moon_Conflict_L5 k k.sightings[a] (sub k.sightings (a+1) k.sightings.length)) 0=some (.inl z)):=by
    intro a ha
    obtain⟨sl,hsl⟩:∃sl,sl=sub k.sightings (a+1) k.sightings.length:=⟨_,rfl⟩
    have hslen:sl.length=k.sightings.length-(a+1):=by rw [hsl];unfold sub;simp
    have hget:∀m (hm:m<sl.length),sl[m]=k.sightings[a+1+m]'(by omega):=fun m hm=>by
     have e:sl[m]?=k.sightings[a+1+m]?:=by
      rw [hsl];unfold sub
      rw [List.getElem?_take,if_pos (by omega),List.getElem?_drop]
     rw [List.getElem?_eq_getElem hm,List.getElem?_eq_getElem (by omega)]at e
     exact Option.some.inj e
    rw [←hsl]
    let p:Nat→Option (List Int×Int):=fun m=>match sl[m]? with|some y=>if emp (slp k.Sheet k.roofs [k.sightings[a],y])=true then some ([k.sightings[a].Source,y.Source],0)else none|none=>none
    have h5:=find_loop (body:=m_moon_Conflict_L5 k k.sightings[a] sl) sl.length (by omega) p (fun m hm=>by
     have h1:((m:Int)<(sl.length:Int))=True:=eq_true (by omega)
     have hq:p m=if emp (slp k.Sheet k.roofs [k.sightings[a],sl[m]])=true then some ([k.sightings[a].Source,sl[m].Source],0)else none:=by
      show(match sl[m]? with|some y=>if emp (slp k.Sheet k.roofs [k.sightings[a],y])=true then some ([k.sightings[a].Source,y.Source],(0:Int))else none|none=>none)=_
      rw [List.getElem?_eq_getElem hm]
     unfold m_moon_Conflict_L5
     rw [hq]
     simp only [h1,decide_true,if_true,idx_nat hm,Option.bind_some,W_s (show m<9223372036854775807 by omega)]
     rw [clash_eq hk (l:= [k.sightings[a],sl[m]]) (fun y hy=>by
      simp only [List.mem_cons,List.not_mem_nil,or_false]at hy
      rcases hy with rfl|rfl
      · exact List.getElem_mem ha
      · rw [hget m hm];exact List.getElem_mem _) (by simp),Option.bind_some]
     by_cases e:emp (slp k.Sheet k.roofs [k.sightings[a],sl[m]])=true<;>simp [e]) (by simp [m_moon_Conflict_L5])
    rcases h5 with⟨m,r,hm,hp,_,e⟩|⟨hp,e⟩
    · left
      have hp':(match sl[m]? with|some y=>if emp (slp k.Sheet k.roofs [k.sightings[a],y])=true then some ([k.sightings[a].Source,y.Source],(0:Int))else none|none=>none)=some r:=hp
      rw [List.getElem?_eq_getElem hm]at hp'
      simp only at hp'
      split at hp'
      · rename_i hs
        cases hp'
        rw [hget m hm]at hs e
        exact⟨a+1+m,by omega,by omega,hs,e⟩
      · cases hp'
    · right
      refine⟨fun j hj haj=> ?_,_,e⟩
      obtain⟨m,rfl⟩:∃m,j=a+1+m:=⟨j-(a+1),by omega⟩
      have hm:m<sl.length:=by omega
      have hp':(match sl[m]? with|some y=>if emp (slp k.Sheet k.roofs [k.sightings[a],y])=true then some ([k.sightings[a].Source,y.Source],(0:Int))else none|none=>none)=none:=hp m hm
      rw [List.getElem?_eq_getElem hm]at hp'
      simp only at hp'
      split at hp'
      · cases hp'
      · rename_i hs
        rw [hget m hm]at hs
        simpa using hs
   obtain⟨e2,he2,q2⟩:=loopF_rule (body:=m_moon_Conflict_L4 k) (fun i=>∃a:Nat,i=a∧a≤k.sightings.length∧∀(i j:Nat) (hi:i<k.sightings.length) (hj:j<k.sightings.length),i<a→i<j→emp (slp k.Sheet k.roofs [k.sightings[i],k.sightings[j]])=false) (fun i=>k.sightings.length-i.toNat)
    (fun e=>(∃(i j:Nat) (hi:i<k.sightings.length) (hj:j<k.sightings.length),i<j∧emp (slp k.Sheet k.roofs [k.sightings[i],k.sightings[j]])=true∧e= .inr ([k.sightings[i].Source,k.sightings[j].Source],0))∨((∀(i j:Nat) (hi:i<k.sightings.length) (hj:j<k.sightings.length),i<j→emp (slp k.Sheet k.roofs [k.sightings[i],k.sightings[j]])=false)∧∃z,e= .inl z)) (by
    rintro _ ⟨a,rfl,ha,hq⟩
    unfold m_moon_Conflict_L4
    by_cases h1:(a:Int)<(k.sightings.length:Int)
    · have hkl:a<k.sightings.length:=by omega
      have hw:W ((a:Int)+1)=(a:Int)+1:=W_s (by omega)
      have hg:0≤(a:Int)+1∧(a:Int)+1≤(k.sightings.length:Int):=by omega
      have ht:((a:Int)+1).toNat=a+1:=by omega
      simp only [h1,decide_true,if_true,idx_nat hkl,Option.bind_some,hw,gd,hg,and_self,ht]
      rcases inner a hkl with⟨j,hj,haj,hs,e⟩|⟨hn',z,e⟩
      · left
        rw [e,Option.bind_some]
        exact⟨_,rfl, .inl ⟨a,j,hkl,hj,haj,hs,rfl⟩⟩
      · right
        rw [e,Option.bind_some]
        refine⟨_,rfl,⟨a+1,rfl,by omega,fun i j hi hj hia hij=> ?_⟩,by omega⟩
        by_cases e:i=a
        · subst e;exact hn' j hj hij
        · exact hq i j hi hj (by omega) hij
    · left
      exact⟨.inl (a:Int),by simp only [h1,decide_false,Bool.false_eq_true,if_false], .inr ⟨fun i j hi hj hij=>hq i j hi hj (by omega) hij,_,rfl⟩⟩) 0 ⟨0,rfl,by omega,fun i j hi hj h=>by omega⟩ (lt_FUEL (by omega))
   rcases q2 with⟨i,j,hi,hj,hij,hs,rfl⟩|⟨hnone,z,rfl⟩
   · exact .inl ⟨i,j,hi,hj,hij,hs,by unfold conf;rw [e,Option.bind_some];simp only [he2,Option.bind_some]⟩
   · exact .inr ⟨hnone,by unfold conf;rw [e,Option.bind_some];simp only [he2,Option.bind_some]⟩
def chk (k:Tknown) (by_:List Int):Option Int:=
 Option.bind (loopF (m_moon_CheckConflict_L2 by_ k) ([],0)) fun e=>match e with
  | .inl (l,_)=>Option.bind (m_moon_known_clash k l) fun x=>if(!x)=true then some 26 else Option.bind (loopF (m_moon_CheckConflict_L3 k l) 0) fun e=>match e with| .inl _=>some 0| .inr r=>some r
  | .inr r=>some r
theorem CheckConflict_k {s:TSky} (hr:s.Roofs.length≤maxLen) {n a:Int} {k:Tknown} (h:lookP s n a []=(some k,0)) (by_:List Int):m_moon_CheckConflict s n a by_=chk k by_:=by
 unfold m_moon_CheckConflict
 rw [look_eq s hr n a [] (by simp),h]
 simp only [Option.bind_some,optM,bne_self_eq_false,Bool.false_eq_true,if_false]
 rfl
def Rising (l:List TSighting):Prop:=∀(i j:Nat) (hi:i<l.length) (hj:j<l.length),i<j→l[i].Source<l[j].Source
theorem Rising.lt {l:List TSighting} (h:Rising l) {i j:Nat} (hi:i<l.length) (hj:j<l.length) (hs:l[i].Source<l[j].Source):i<j:=by
 rcases Nat.lt_trichotomy i j with q|q|q
 · exact q
 · subst q;omega
 · have:=h j i hj hi q;omega
theorem Rising.eq {l:List TSighting} (h:Rising l) {i j:Nat} (hi:i<l.length) (hj:j<l.length) (hs:l[i].Source=l[j].Source):i=j:=by
 rcases Nat.lt_trichotomy i j with q|q|q
 · have:=h i j hi hj q;omega
 · exact q
 · have:=h j i hj hi q;omega
theorem chk_clear {k:Tknown} (hk:KOK k) (hs:Rising k.sightings) (he:emp (slp k.Sheet k.roofs k.sightings)=false) {by_:List Int} (hb:by_.length≤maxLen):chk k by_=some 26:=by
 have hn:=hk.n
 have hb:by_.length≤9223372036854775807:=hb
 obtain⟨e,hl,q⟩:=loopF_rule (body:=m_moon_CheckConflict_L2 by_ k) (fun st=>∃(l:List TSighting) (m:Nat),st=(l,(m:Int))∧m≤by_.length∧l.length=m∧(∀y,y∈l→y∈k.sightings)∧(0<m→∃(p:Nat) (hp:p<k.sightings.length) (hm:m-1<by_.length),k.sightings[p].Source=by_[m-1]∧m≤p+1)) (fun st=>by_.length-st.2.toNat) (fun e=>e= .inr 26∨∃l z,e= .inl (l,z)∧(∀y,y∈l→y∈k.sightings)∧l.length≤60) (by
  rintro _ ⟨l,m,rfl,hm,hlm,hmem,hp⟩
  unfold m_moon_CheckConflict_L2
  have h60:l.length≤60:=by
   by_cases h0:0<m
   · obtain⟨p,hp,_,_,h⟩:=hp h0;omega
   · omega
  by_cases h1:(m:Int)<(by_.length:Int)
  · have hml:m<by_.length:=by omega
    simp only [h1,decide_true,if_true,idx_nat hml,Option.bind_some]
    rcases index_src k.sightings hn by_[m]with⟨i,hi,hsrc,e⟩|⟨hno,e⟩
    · have n0:((i:Int)<0)=False:=eq_false (by omega)
      have hgl:(l.length+([k.sightings[i]]:List TSighting).length)*48≤140737488355328∧l.length+([k.sightings[i]]:List TSighting).length≤9223372036854775807:=by simp;omega
      have hw:W ((m:Int)+1)=(m:Int)+1:=W_s (by omega)
      have hnew:∀y,y∈l++ [k.sightings[i]]→y∈k.sightings:=fun y hy=>by
       rcases List.mem_append.1 hy with hy|hy
       · exact hmem y hy
       · rw [List.mem_singleton.1 hy];exact List.getElem_mem hi
      rw [e,Option.bind_some]
      simp only [n0,decide_false,Bool.false_eq_true,if_false]
      by_cases h0:0<m
      · obtain⟨p,hp,hm1,hps,hmp⟩:=hp h0
        have g0:((m:Int)>0)=True:=eq_true (by omega)
        have hw1:W ((m:Int)-1)=((m-1:Nat):Int):=by rw [W_id (by omega)];omega
        simp only [g0,decide_true,if_true,hw1,idx_nat hm1,Option.bind_some]
        by_cases hle:by_[m-1]≥by_[m]
        · left
          exact⟨_,by simp only [hle,decide_true,if_true], .inl rfl⟩
        · right
          simp only [hle,decide_false,Bool.false_eq_true,if_false,idx_nat hi,Option.bind_some]
          have hlt:=hs.lt hp hi (by rw [hps,hsrc];omega)
          rw [gd,if_pos hgl,hw]
          exact⟨_,rfl,⟨_,m+1,rfl,by omega,by simp;omega,hnew,fun _=>⟨i,hi,by omega,hsrc,by omega⟩⟩,by simp only;omega⟩
      · right
        have g0:((m:Int)>0)=False:=eq_false (by omega)
        simp only [g0,decide_false,Bool.false_eq_true,if_false,idx_nat hi,Option.bind_some]
        rw [gd,if_pos hgl,hw]
        exact⟨_,rfl,⟨_,m+1,rfl,by omega,by simp;omega,hnew,fun _=>⟨i,hi,by omega,hsrc,by omega⟩⟩,by simp only;omega⟩
    · left
      rw [e,Option.bind_some]
      exact⟨_,by simp, .inl rfl⟩
  · left
    exact⟨.inl (l,(m:Int)),by simp only [h1,decide_false,Bool.false_eq_true,if_false], .inr ⟨l,_,rfl,hmem,h60⟩⟩) ([],0) ⟨[],0,rfl,by omega,rfl,fun y hy=>(by cases hy),fun h=>by omega⟩ (lt_FUEL (by simp;omega))
 unfold chk
 rw [hl,Option.bind_some]
 rcases q with rfl|⟨l,z,rfl,hmem,h60⟩
 · rfl
 · have hf:emp (slp k.Sheet k.roofs l)=false:=by
    by_cases h:emp (slp k.Sheet k.roofs l)=true
    · have:=emp_le hk (zs:=k.sightings) (fun y hy=>hy) hmem h
      rw [he]at this;cases this
    · simpa using h
   simp only [clash_eq hk hmem h60,Option.bind_some,hf,Bool.not_false,if_true]
theorem chk_ok {k:Tknown} (hk:KOK k) (hs:Rising k.sightings) {ys:List TSighting} (hm:∀y,y∈ys→y∈k.sightings) (hr:Rising ys) (h60:ys.length≤60) (he:emp (slp k.Sheet k.roofs ys)=true) (hd:∀i,i<ys.length→emp (slp k.Sheet k.roofs (ys.take i++ys.drop (i+1)))=false):chk k (ys.map (·.Source))=some 0:=by
 have hn:=hk.n
 obtain⟨e,hl,rfl⟩:=loopF_rule (body:=m_moon_CheckConflict_L2 (ys.map (·.Source)) k) (fun st=>∃m:Nat,st=(ys.take m,(m:Int))∧m≤ys.length) (fun st=>ys.length-st.2.toNat) (fun e=>e= .inl (ys,(ys.length:Int))) (by
  rintro _ ⟨m,rfl,hmy⟩
  unfold m_moon_CheckConflict_L2
  by_cases h1:m<ys.length
  · right
    have hml:m<(ys.map (·.Source)).length:=by simpa using h1
    have e1:((m:Int)<((ys.map (·.Source)).length:Int))=True:=eq_true (by omega)
    have hsm:(ys.map (·.Source))[m]=ys[m].Source:=by simp
    simp only [e1,decide_true,if_true,idx_nat hml,Option.bind_some,hsm]
    have hym:ys[m]∈k.sightings:=hm _ (List.getElem_mem h1)
    obtain⟨j,hj,hjy⟩:=List.getElem_of_mem hym
    rcases index_src k.sightings hn ys[m].Source with⟨i,hi,hsrc,e⟩|⟨hno,e⟩
    · have hij:i=j:=hs.eq hi hj (by rw [hsrc,hjy])
      have hiy:k.sightings[i]=ys[m]:=by subst hij;exact hjy
      have n0:((i:Int)<0)=False:=eq_false (by omega)
      have hgl:((ys.take m).length+([ys[m]]:List TSighting).length)*48≤140737488355328∧(ys.take m).length+([ys[m]]:List TSighting).length≤9223372036854775807:=by simp;omega
      have hw:W ((m:Int)+1)=(m:Int)+1:=W_s (by omega)
      have htk:ys.take m++ [ys[m]]=ys.take (m+1):=by rw [List.take_add_one,List.getElem?_eq_getElem h1];rfl
      rw [e,Option.bind_some]
      simp only [n0,decide_false,Bool.false_eq_true,if_false]
      by_cases h0:0<m
      · have g0:((m:Int)>0)=True:=eq_true (by omega)
        have hw1:W ((m:Int)-1)=((m-1:Nat):Int):=by rw [W_id (by omega)];omega
        have hm1:m-1<(ys.map (·.Source)).length:=by omega
        have hsm1:(ys.map (·.Source))[m-1]=ys[m-1].Source:=by simp
        have hlt:=hr (m-1) m (by omega) h1 (by omega)
        have hge:(ys[m-1].Source≥ys[m].Source)=False:=eq_false (by omega)
        simp only [g0,decide_true,if_true,hw1,idx_nat hm1,Option.bind_some,hsm1,hge,decide_false,Bool.false_eq_true,if_false,idx_nat hi,hiy]
        rw [gd,if_pos hgl,hw,htk]
        exact⟨_,rfl,⟨m+1,rfl,by omega⟩,by simp only;omega⟩
      · have g0:((m:Int)>0)=False:=eq_false (by omega)
        simp only [g0,decide_false,Bool.false_eq_true,if_false,idx_nat hi,Option.bind_some,hiy]
        rw [gd,if_pos hgl,hw,htk]
        exact⟨_,rfl,⟨m+1,rfl,by omega⟩,by simp only;omega⟩
    · exact absurd rfl (hno _ hym)
  · left
    obtain rfl:m=ys.length:=by omega
    have e1:((ys.length:Int)<((ys.map (·.Source)).length:Int))=False:=eq_false (by simp)
    exact⟨.inl (ys,(ys.length:Int)),by simp only [e1,decide_false,Bool.false_eq_true,if_false,List.take_length],rfl⟩) ([],0) ⟨0,by simp,by omega⟩ (lt_FUEL (by simp;omega))
 obtain⟨e,h3,z,rfl⟩:=loopF_rule (body:=m_moon_CheckConflict_L3 k ys) (fun i=>∃m:Nat,i=m∧m≤ys.length) (fun i=>ys.length-i.toNat) (fun e=>∃z,e= .inl z) (by
  rintro _ ⟨m,rfl,hmy⟩
  unfold m_moon_CheckConflict_L3
  by_cases h1:(m:Int)<(ys.length:Int)
  · right
    have hw:W ((m:Int)+1)=(m:Int)+1:=W_s (by omega)
    have ht:((m:Int)+1).toNat=m+1:=by omega
    have hc:m_slices_Clone_api_Sighting_api_Sighting ys=some ys:=by unfold m_slices_Clone_api_Sighting_api_Sighting;rw [gd,if_pos (by omega)]
    have hdel:m_slices_Delete_api_Sighting_api_Sighting ys (m:Int) ((m:Int)+1)=some (ys.take m++ys.drop (m+1)):=by
     unfold m_slices_Delete_api_Sighting_api_Sighting
     rw [gd,if_pos (by omega),ht,Int.toNat_natCast]
    have hmem:∀y,y∈ys.take m++ys.drop (m+1)→y∈k.sightings:=fun y hy=>by
     rcases List.mem_append.1 hy with hy|hy
     · exact hm y (List.mem_of_mem_take hy)
     · exact hm y (List.mem_of_mem_drop hy)
    simp only [h1,decide_true,if_true,hc,Option.bind_some,hw,hdel,clash_eq hk hmem (by simp;omega),hd m (by omega),Bool.false_eq_true,if_false]
    exact⟨_,rfl,⟨m+1,rfl,by omega⟩,by omega⟩
  · left
    exact⟨.inl (m:Int),by simp only [h1,decide_false,Bool.false_eq_true,if_false],_,rfl⟩) 0 ⟨0,rfl,by omega⟩ (lt_FUEL (by omega))
 unfold chk
 rw [hl,Option.bind_some]
 simp only [clash_eq hk hm h60,Option.bind_some,he,Bool.not_true,Bool.false_eq_true,if_false]
 rw [h3]
 rfl
theorem sg_rising {s:TSky} (h:VSky s) (n a:Int):Rising (sg s.Sightings n a):=by
 have hp:=(sights_pair.1 h.sights).2
 have hp2:(sg s.Sightings n a).Pairwise (fun a b=>a.Source<b.Source):=hp.filter _
 intro i j hi hj hij
 exact List.pairwise_iff_getElem.1 hp2 i j hi hj hij
theorem pl_MoonTwo (r:TRaw) (night:Int) (by_:List Int) (hr:TRaw.G r) (_:InK .i64 night) (hb:(by_.length*8≤reachBytes∧by_.length≤maxLen∧∀y:Int,y∈by_→InK .i64 y)):m_L02_MoonTwo r night by_=some true:=by
 obtain⟨s,hs,hv,h3,h6⟩:=Made_ex r (reach_len (by omega) hr.1.1)
 have hrf:s.Roofs.length≤maxLen:=by have:=hv.roofs.len;unfold maxLen;omega
 obtain⟨m,hm,m1,m2⟩:=Mod_ex night (m:=2) (by omega) (by omega)
 have hw:W (5+m)=5+m:=W_id (by omega)
 have hn:0≤5+m∧5+m≤100000:=by omega
 obtain⟨n,hnn⟩:∃n,5+m=n:=⟨_,rfl⟩
 rw [hnn]at hw hn
 have hl:lookP s n 20 []=match inF s.Sheets n 20 with
  |none=>(none,25)
  |some x=>(some ⟨x,s.Roofs,sg s.Sightings n 20,slp x s.Roofs (sg s.Sightings n 20)⟩,0):=by
  unfold lookP
  rw [if_neg (by simpa using hv),if_neg (by simpa using hn),if_neg (by omega),if_neg (by simp [minsOK])]
 unfold m_L02_MoonTwo
 rw [hs]
 simp only [Option.bind_some]
 rw [hm]
 simp only [Option.bind_some,hnn,hw]
 unfold m_moon_InForce
 rw [look_eq s hrf n 20 [] (by simp)]
 cases hf:inF s.Sheets n 20 with
 |none=>
  rw [hf]at hl
  simp only [hl,Option.bind_some,optM]
  simp only [Int.reduceBNe,Int.reduceBEq,if_true,Option.bind_some,pl_sane]
 |some x=>
  rw [hf]at hl
  simp only at hl
  obtain⟨_,hk,_⟩:=lookP_ok hl
  obtain⟨k,hke⟩:∃k,(⟨x,s.Roofs,sg s.Sightings n 20,slp x s.Roofs (sg s.Sightings n 20)⟩:Tknown)=k:=⟨_,rfl⟩
  have hslip:k.slip=slp k.Sheet k.roofs k.sightings:=by rw [←hke]
  have hris:Rising k.sightings:=by rw [←hke];exact sg_rising hv n 20
  rw [hke]at hl hk
  have hrows:=hk.sh.len
  have hclone:m_slices_Clone_api_Row_api_Row k.Sheet.Rows=some k.Sheet.Rows:=by
   unfold m_slices_Clone_api_Row_api_Row
   rw [gd,if_pos (by omega)]
  have hCk:=CheckConflict_k hrf hl
  have hCf:m_moon_Conflict s n 20=conf k:=by rw [Conflict_eq s hrf,hl]
  have hSl:m_moon_Slip s n 20=some (if emp k.slip=true then(⟨⟨0,0⟩,false,⟨0,0⟩⟩,26)else(k.slip,0)):=by
   rw [Slip_eq s hrf]
   unfold clearP
   rw [hl]
   by_cases he:emp k.slip=true<;>simp [he]
  simp only [hl,Option.bind_some,optM,bne_self_eq_false,Bool.false_eq_true,if_false,hclone,hSl,hCf,hCk]
  rw [hslip]
  have hspec:=conf_spec hk
  by_cases he:emp (slp k.Sheet k.roofs k.sightings)=true
  · have two:=emp_two hk.sh hk.rf (ys:=k.sightings) hk.sg he
    rw [if_pos he]
    rcases hspec with⟨i,hi,e1,ec⟩|⟨hno,⟨i,j,hi,hj,hij,e1,ec⟩|⟨hno2,ec⟩⟩
    · have hc:=chk_ok hk hris (ys:= [k.sightings[i]]) (fun y hy=>by rw [List.mem_singleton.1 hy];exact List.getElem_mem hi) (fun a b ha hb hab=>by simp at ha hb;omega) (by simp) e1 (fun a ha=>by
       simp at ha;subst ha
       simpa using emp_nil hk.sh k.roofs)
      simp only [List.map_cons,List.map_nil]at hc
      simp only [ec,Option.bind_some,Int.reduceBEq,Bool.false_eq_true,if_false,if_true,List.length_cons,List.length_nil,hc,pl_sane]
      rfl
    · have hc:=chk_ok hk hris (ys:= [k.sightings[i],k.sightings[j]]) (fun y hy=>by
       simp only [List.mem_cons,List.not_mem_nil,or_false]at hy
       rcases hy with rfl|rfl
       · exact List.getElem_mem hi
       · exact List.getElem_mem hj) (fun a b ha hb hab=>by
       simp at ha hb
       obtain rfl:a=0:=by omega
       obtain rfl:b=1:=by omega
       exact hris i j hi hj hij) (by simp) e1 (fun a ha=>by
       simp at ha
       have:a=0∨a=1:=by omega
       rcases this with rfl|rfl
       · simpa using hno _ (List.getElem_mem hj)
       · simpa using hno _ (List.getElem_mem hi))
      simp only [List.map_cons,List.map_nil]at hc
      simp only [ec,Option.bind_some,Int.reduceBEq,Bool.false_eq_true,if_false,if_true,List.length_cons,List.length_nil,hc,pl_sane]
      rfl
    · exfalso
      rcases two with⟨y,hy,e⟩|⟨y,z,hy,hz,hyz,e⟩
      · rw [hno y hy]at e;cases e
      · obtain⟨i,hi,rfl⟩:=List.getElem_of_mem hy
        obtain⟨j,hj,rfl⟩:=List.getElem_of_mem hz
        rcases Nat.lt_trichotomy i j with q|q|q
        · rw [hno2 i j hi hj q]at e;cases e
        · subst q;exact hyz rfl
        · have e':=emp_le hk (zs:= [k.sightings[j],k.sightings[i]]) (fun y hy=>by
           simp only [List.mem_cons,List.not_mem_nil,or_false]at hy
           rcases hy with rfl|rfl
           · exact List.getElem_mem hj
           · exact List.getElem_mem hi) (fun y hy=>by
           simp only [List.mem_cons,List.not_mem_nil,or_false]at hy⊢
           exact hy.symm) e
          rw [hno2 j i hj hi q]at e';cases e'
  · have he':emp (slp k.Sheet k.roofs k.sightings)=false:=by simpa using he
    have hcl:=chk_clear hk hris he' (by_:=by_) hb.2.1
    have none_of:∀ys:List TSighting,(∀y,y∈ys→y∈k.sightings)→emp (slp k.Sheet k.roofs ys)=true→False:=fun ys hy e=>he (emp_le hk (zs:=k.sightings) (fun y hy=>hy) hy e)
    have ec:conf k=some ([],27):=by
     rcases hspec with⟨i,hi,e1,_⟩|⟨_,⟨i,j,hi,hj,_,e1,_⟩|⟨_,ec⟩⟩
     · exact(none_of _ (fun y hy=>by rw [List.mem_singleton.1 hy];exact List.getElem_mem hi) e1).elim
     · exact(none_of _ (fun y hy=>by
        simp only [List.mem_cons,List.not_mem_nil,or_false]at hy
        rcases hy with rfl|rfl
        · exact List.getElem_mem hi
        · exact List.getElem_mem hj) e1).elim
     · exact ec
    rw [if_neg he]
    simp only [ec,Option.bind_some,beq_self_eq_true,Int.reduceBEq,if_true,hcl,pl_sane]
end Go.Proofs.Ytnehgkfgenhgcaa
