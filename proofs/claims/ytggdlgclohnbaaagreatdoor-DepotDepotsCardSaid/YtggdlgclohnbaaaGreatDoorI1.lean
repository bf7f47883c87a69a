/- Walks by hand. -/
import Derived.Test.YtggdlgclohnbaaaGreatDoorL1
import Derived.Lib.IndexLaws
import Derived.Defers
import Derived.Recover
import Derived.StillTailTactics
import Derived.Deep.QuietTactic
set_option linter.unusedVariables false
set_option linter.unusedSimpArgs false
namespace Go
theorem b2t:type_of% @List.getElem?_eq_none:=@List.getElem?_eq_none
theorem a0t:type_of% @and_self:=@and_self
end Go
namespace Go.Proofs.YtggdlgclohnbaaaGreatDoor
open Go Go.RowKit Go.Sx Go.Lib Go.Proofs.Tryz
set_option maxRecDepth 100000
set_option maxHeartbeats 8000000
def a8F(s:ByteArray):ByteArray×ByteArray×Bool:=
 if 0≤Lib.indexByte s.data.toList 32 then(s.extract 0 (Lib.indexByte s.data.toList 32).toNat,s.extract ((Lib.indexByte s.data.toList 32).toNat+1) s.size,true)else(s,⟨#[]⟩,false)
theorem d1N(s:ByteArray)(h:s.size≤281474976710656):a6J s ⟨#[32]⟩=some (a8F s):=by
 have hsz:(⟨#[32]⟩:ByteArray).size=1:=rfl;have hhd:(⟨#[32]⟩:ByteArray).data.toList.headD 0=32:=rfl;unfold a6J S4 O9 a8F;simp only[hsz,hhd,gd,D2,j7];by_cases h0:0≤Lib.indexByte s.data.toList 32
 ·obtain⟨o,ho⟩:∃o:Nat,Lib.indexByte s.data.toList 32=(o:Int):=⟨_,(b2K h0).symm⟩
  have hlt:o<s.size:=by
   have:=(Lib.indexByte_some ho).1;have:=(P3.1 this).1;simpa using this
  have hw:W ((o:Int)+((1:Nat):Int))=((o+1:Nat):Int):=by unfold W;rw[b9d (by omega)];rfl
  rw[ho,hw];have h1:(0:Int)≤(o:Int)∧(o:Int)≤(s.size:Int):=by omega
  have h2:(0:Int)≤((o+1:Nat):Int)∧((o+1:Nat):Int)≤(s.size:Int):=by omega
  rw[k9 h1,k9 h2];simp
 ·simp[h0]
theorem b2H(s:ByteArray):(a8F s).1.size≤s.size∧(a8F s).2.1.size≤s.size:=by
 unfold a8F;split
 ·simp only[ByteArray.size_extract];omega
 ·exact⟨y6 _,L0 _⟩
theorem d0X(s:ByteArray)(h:s.size≤281474976710656)(w:World)(hgi:GIW Tryz.prog w):Calls Tryz.prog 157 #[.string s,.string ⟨#[32]⟩] w fun e w'=>e=.returned (.tuple #[.string (a8F s).1,.string (a8F s).2.1,.bool (a8F s).2.2])∧Below w.heap.size w w':=by
 refine((b6V s ⟨#[32]⟩ _ (d1N s h)).contract (w:=w) (vs:=[.string s,.string ⟨#[32]⟩]) (by simp[l5,Rep,a3T]) hgi).mono fun e w' ⟨v,he,hr,hb⟩=>⟨?_,hb⟩
 simp only[Rep]at hr;obtain⟨a,rfl,hr⟩:=hr;obtain⟨a⟩:=a
 match a,hr with
 |[x,y,z],hr=>
  simp only[l5,Rep]at hr;rw[he,hr.1.1,hr.2.1.1,hr.2.2.1.1]
 |[],hr=>simp[l5]at hr
 |[_],hr=>simp[l5]at hr
 |[_,_],hr=>simp[l5]at hr
 |_::_::_::_::_,hr=>simp[l5]at hr
theorem d1U:a9j Tryz.prog "strconv.ErrSyntax" 1:=⟨by kernel_rfl,by kernel_rfl⟩
theorem d1c:a9j Tryz.prog "strconv.ErrRange" 2:=⟨by kernel_rfl,by kernel_rfl⟩
theorem c4K(s:ByteArray)(hs:s.size≤281474976710656)(v:Int)(h:Lib.atoiAll s.data.toList=.ok v)(w:World):Calls Tryz.prog 158 #[.string s] w fun e w'=>e=.returned (.tuple #[.int .i64 v,.nilIface])∧Below w.heap.size w w':=
 (Go.Proofs.Any.strconv_Atoi_ok b6a s (by omega) v h w).mono fun e w' ⟨he,hw⟩=>⟨he,by
  rcases hw with rfl|⟨t,rfl⟩
  ·exact Below.refl _ _
  ·exact b3S w _ t⟩
def d3I(w:World)(e:Ending)(w':World):Prop:=∃v t p,e=.returned (.tuple #[.int .i64 v,.iface t (.pointer (some p))])∧Below w.heap.size w w'
theorem c5c(s:ByteArray)(hs:s.size≤281474976710656)(h:∀v,Lib.atoiAll s.data.toList≠ .ok v)(w:World)(hgi:GIW Tryz.prog w):Calls Tryz.prog 158 #[.string s] w (d3I w):=by
 cases ha:Lib.atoiAll s.data.toList with
 |ok v=>exact absurd ha (h v)
 |range=>
  obtain⟨tp,p,hc⟩:=hgi.errs (.inr d1c);exact(Go.Proofs.Any.strconv_Atoi_range b6a s hs ha _ w hc (.inr ⟨tp,p,rfl⟩)).mono fun e w' ⟨N,he,_,_,hb⟩=>⟨_,_,_,he,hb⟩
 |_=>
  obtain⟨tp,p,hc⟩:=hgi.errs (.inl d1U);exact(Go.Proofs.Any.strconv_Atoi_syntax b6a s hs ha _ w hc (.inr ⟨tp,p,rfl⟩)).mono fun e w' ⟨N,he,_,_,hb⟩=>⟨_,_,_,he,hb⟩
def b7r(s:ByteArray):Option (Int×ByteArray):=match(a8F s).2.2,Lib.atoiAll (a8F s).1.data.toList with
 |true,.ok v=>some (v,(a8F s).2.1)
 |_,_=>none
def c6U:List PanicEntry:=[{ v:=.iface 182 (.agg #[]),recovered:=false}]
def d4l(w:World)(e:Ending)(w':World):Prop:=e=.panicked c6U∧Below w.heap.size w w'
theorem c1D(t:TypeId)(q:Addr)(w:World):(binOp .neq 193 (.iface t (.pointer (some q))) .nilIface).run Tryz.prog w=.ok (.bool true) w:=by
 have h:∀d:Nat,(Op.equalIn (d+1) 193 (.iface t (.pointer (some q))) .nilIface).run Tryz.prog w=.ok false w:=fun d=>by
  simp[Op.equalIn,a9t underlying193]
 simp only[binOp];simp[Op.equal,Op.maxDepth,h 9999]
theorem c5S(s:ByteArray)(hs:s.size≤281474976710656)(v:Int)(rest:ByteArray)(h:b7r s=some (v,rest))(w:World)(hgi:GIW Tryz.prog w):
 Calls Tryz.prog 130 #[.string s] w fun e w'=>e=.returned (.tuple #[.int .i64 v,.string rest])∧Below w.heap.size w w':=by
 unfold b7r at h;split at h
 ·rename_i h1 h2;cases h;have hsz:=b2H s;have hc:=d0X s hs w hgi;rw[h1]at hc;have H2:=P2 h2;have H1:=P2 h1;clear h1 h2
  go_enter func130,Tryz.ntmps130
  go_wp2_with fail
  refine hc.mono ?_;rintro e w1 ⟨rfl,hb1⟩;clear hc
  go_wp2_with fail
  refine(c4K _ (by omega) _ H2.out w1).mono ?_;rintro e w2 ⟨rfl,hb2⟩
  go_wp2
  go_ret2
  exact⟨rfl,hb1.trans (hb2.mono (by have:=hb1.size;omega))⟩
 ·cases h
theorem c5H(s:ByteArray)(hs:s.size≤281474976710656)(h:b7r s=none)(w:World)(hgi:GIW Tryz.prog w):Calls Tryz.prog 130 #[.string s] w (d4l w):=by
 have hsz:=b2H s;have hc:=d0X s hs w hgi;have hbb:∀w1 w2:World,Below w.heap.size w w1→Below w1.heap.size w1 w2→Below w.heap.size w w2:=fun w1 w2 h1 h2=>h1.trans (h2.mono (by have:=h1.size;omega))
 by_cases hv:∃v,Lib.atoiAll (a8F s).1.data.toList=.ok v
 ·obtain⟨v,h2⟩:=hv
  have h1:(a8F s).2.2=false:=by
   cases h1:(a8F s).2.2 with
   |false=>rfl
   |true=>unfold b7r at h;rw[h1,h2]at h;cases h
  rw[h1]at hc;have H2:=P2 h2;clear h1 h2 h
  go_enter func130,Tryz.ntmps130
  go_wp2_with fail
  refine hc.mono ?_;rintro e w1 ⟨rfl,hb1⟩;clear hc
  go_wp2_with fail
  refine(c4K _ (by omega) _ H2.out w1).mono ?_;rintro e w2 ⟨rfl,hb2⟩
  go_wp2
  simp[Instr.panic,Result.andThen,Oper.upon,Exit.then,bodyPost];exact⟨rfl,hbb _ _ hb1 hb2⟩
 ·have hv':∀v,Lib.atoiAll (a8F s).1.data.toList≠ .ok v:=fun v e=>hv ⟨v,e⟩
  have HV:=P2 hv';clear hv hv';cases h1:(a8F s).2.2 with
  |false=>
   rw[h1]at hc;clear h1 h
   go_enter func130,Tryz.ntmps130
   go_wp2_with fail
   refine hc.mono ?_;rintro e w1 ⟨rfl,hb1⟩;clear hc;have hg1:=hgi.below hb1
   go_wp2_with fail
   refine(c5c _ (by omega) HV.out w1 hg1).mono ?_;rintro e w2 ⟨v,t,q,rfl,hb2⟩
   go_wp2
   simp[Instr.panic,Result.andThen,Oper.upon,Exit.then,bodyPost];exact⟨rfl,hbb _ _ hb1 hb2⟩
  |true=>
   rw[h1]at hc;clear h1 h
   go_enter func130,Tryz.ntmps130
   go_wp2_with fail
   refine hc.mono ?_;rintro e w1 ⟨rfl,hb1⟩;clear hc;have hg1:=hgi.below hb1
   go_wp2_with fail
   refine(c5c _ (by omega) HV.out w1 hg1).mono ?_;rintro e w2 ⟨v,t,q,rfl,hb2⟩;have hne:∀w,(binOp .neq 193 (.iface t (.pointer (some q))) .nilIface).run Tryz.prog w=.ok (.bool true) w:=c1D t q
   go_wp2
   simp[Instr.panic,Result.andThen,Oper.upon,Exit.then,bodyPost];exact⟨rfl,hbb _ _ hb1 hb2⟩
set_option maxRecDepth 100000
set_option maxHeartbeats 8000000
theorem c2M(p q:Addr)(w:World):CallsD Tryz.prog 129 #[.pointer (some p),.pointer (some q)] .returning w fun e u' w'=>e=.returned (.tuple #[])∧u'=.returning∧w'=w:=by
 refine callsD_of_wpS func129 rfl fun c₀ cs hu=>?_
 apply wpS_seq;apply wpS_region;simp[wpOpsS,go_sem,recoverD,hu,Tryz.ntmps129,Exit.thenS];refine wpS_of_wp ?_
 go_wp2
 cases c₀
 simp_all[bodyPostS,results,Tryz.results129]
theorem C8{w:World}{a j:Nat}{v:Value}{cs:Array Value}{T:TypeId}{fr:Nat×Nat}(h:w.heap[a]?=some (.cells cs T fr)):(w.setCell ⟨a,j,none⟩ v).heap[a]?=some (.cells (cs.setIfInBounds j v) T fr):=by
 simp[World.setCell,Array.getElem?_modify,h]
theorem a2q{w:World}{a b j:Nat}{v:Value}(h:a≠b):(w.setCell ⟨a,j,none⟩ v).heap[b]?=w.heap[b]?:=by
 simp[World.setCell,Array.getElem?_modify,h]
theorem a3v{w:World}{p:Addr}{v:Value}:(w.setCell p v).heap.size=w.heap.size:=by simp[World.setCell]
theorem d1u(w:World):(Instr.typeAssert (.iface 182 (.agg #[])) 20 182 true).run Tryz.prog w=.ok (.tuple #[.agg #[],.bool true]) w:=by kernel_rfl
theorem c6w(n a b:Nat)(w:World)(x0:Value)(cs0:Array Value)(hna:n≤a)(hnb:n≤b)(hab:a≠b)(ha:w.heap[a]?=some (.cells cs0 38 (0,0)))(hs:cs0.size=8)(hb:w.heap[b]?=some (.cells #[x0] 4 (0,0))):
 CallsD Tryz.prog 129 #[.pointer (some ⟨a,0,none⟩),.pointer (some ⟨b,0,none⟩)] (.panicking c6U) w fun e u' w'=>e=.returned (.tuple #[])∧u'=.panicking [{ v:=.iface 182 (.agg #[]),recovered:=true}]∧
  w'.heap[a]?=some (.cells #[.int .i64 0,.int .i64 0,.int .i64 0,.int .i64 0,.int .i64 0,.int .i64 0,.int .i64 0,.string ⟨#[]⟩] 38 (0,0))∧w'.heap[b]?=some (.cells #[.bool false] 4 (0,0))∧Below n w w':=by
 have hta:=d1u;have hlta:a<w.heap.size:=(Z8.1 ha).1;have hltb:b<w.heap.size:=(Z8.1 hb).1
 match cs0,hs with
 |⟨[x1,x2,x3,x4,x5,x6,x7,x8]⟩,_=>
 have c0:w.cell? ⟨a,0,none⟩=some x1:=by rw[G4 ha];rfl
 have f0:w.frozen? ⟨a,0,none⟩=false:=U1 ha 0;have c1:w.cell? ⟨a,1,none⟩=some x2:=by rw[G4 ha];rfl
 have f1:w.frozen? ⟨a,1,none⟩=false:=U1 ha 1;have c2:w.cell? ⟨a,2,none⟩=some x3:=by rw[G4 ha];rfl
 have f2:w.frozen? ⟨a,2,none⟩=false:=U1 ha 2;have c3:w.cell? ⟨a,3,none⟩=some x4:=by rw[G4 ha];rfl
 have f3:w.frozen? ⟨a,3,none⟩=false:=U1 ha 3;have c4:w.cell? ⟨a,4,none⟩=some x5:=by rw[G4 ha];rfl
 have f4:w.frozen? ⟨a,4,none⟩=false:=U1 ha 4;have c5:w.cell? ⟨a,5,none⟩=some x6:=by rw[G4 ha];rfl
 have f5:w.frozen? ⟨a,5,none⟩=false:=U1 ha 5;have c6:w.cell? ⟨a,6,none⟩=some x7:=by rw[G4 ha];rfl
 have f6:w.frozen? ⟨a,6,none⟩=false:=U1 ha 6;have c7:w.cell? ⟨a,7,none⟩=some x8:=by rw[G4 ha];rfl
 have f7:w.frozen? ⟨a,7,none⟩=false:=U1 ha 7;have cb:w.cell? ⟨b,0,none⟩=some x0:=by rw[G4 hb];rfl
 have fb:w.frozen? ⟨b,0,none⟩=false:=U1 hb 0;have hba:b≠a:=fun e=>hab e.symm
 have HA:=P2 ha;have HB:=P2 hb;clear ha hb;refine callsD_of_wpS func129 rfl fun c₀ cs hu=>?_
 apply wpS_seq;apply wpS_region;simp[wpOpsS,go_sem,recoverD,hu,Tryz.ntmps129,Exit.thenS,c6U];refine wpS_of_wp ?_
 go_wp2
 simp only[bodyPostS,U2];refine⟨_,rfl,.tuple #[],by simp[results,Tryz.results129],rfl,rfl,?_,?_,?_⟩
 ·rw[Lib.alloc_old _ _ _ (by simpa[a3v]using hlta),a2q hba]
  simpa using C8 (j:=7) (v:=.string ⟨#[]⟩) (C8 (j:=6) (v:=.int .i64 0) (C8 (j:=5) (v:=.int .i64 0) (C8 (j:=4) (v:=.int .i64 0) (C8 (j:=3) (v:=.int .i64 0) (C8 (j:=2) (v:=.int .i64 0) (C8 (j:=1) (v:=.int .i64 0) (C8 (j:=0) (v:=.int .i64 0) HA.out)))))))
 ·rw[Lib.alloc_old _ _ _ (by simpa[a3v]using hltb)]
  refine(C8 (j:=0) (v:=.bool false) (cs:= #[x0]) (T:=4) (fr:=(0,0)) ?_).trans rfl;simp only[a2q hab];exact HB.out
 ·refine Below.alloc ?_ (by simp only[a3v];omega) _;exact(((((((((Below.refl n w).setCell hna _).setCell hna _).setCell hna _).setCell hna _).setCell hna _).setCell hna _).setCell hna _).setCell hna _).setCell hnb _
set_option maxRecDepth 100000
set_option maxHeartbeats 8000000
def F4(r:b9):List Int:=[r.At.Depot,r.At.No,r.Kind,r.Day,r.Known,r.Of.Depot,r.Of.No]
def R0(r:b9):ByteArray:=⟨(O4 (F4 r)).toArray⟩++r.Text
def N3(r:b9):Option ByteArray:=gd ((∀n∈F4 r,-9223372036854775808≤n∧n≤9223372036854775807)∧r.Text.size≤281474976710656) (some (R0 r))
def a3h(r:b9):Array Value:= #[.int .i64 r.At.Depot,.int .i64 r.At.No,.int .i64 r.Kind,.int .i64 r.Day,.int .i64 r.Known,.int .i64 r.Of.Depot,.int .i64 r.Of.No,.string r.Text]
theorem c1l(r:b9)(x:ByteArray)(hm:N3 r=some x)(w:World)(hgi:GIW Tryz.prog w):Calls Tryz.prog 92 #[.agg (a3h r)] w fun e w'=>e=.returned (.string x)∧Below w.heap.size w w':=by
 obtain⟨hg,hm⟩:=j0 hm;cases hm;exact c2V _ _ _ _ _ _ _ r.Text w hg.1 hg.2 hgi
theorem c7J{ok:Nat→Prop}{w:World}{r:b9}{y:Value}(h:Rep ok w (.agg (b9.c r)) y):y=.agg (a3h r):=by
 simp only[Rep]at h;obtain⟨a,rfl,h,_⟩:=h;obtain⟨a⟩:=a
 match a,h with
 |[a1,a2,a3,a4,a5,a6,a7,a8],h=>
  simp only[b9.c,l5,Rep]at h;obtain⟨h1,h2,h3,h4,h5,h6,h7,h8,_⟩:=h;rw[h1.1,h2.1,h3.1,h4.1,h5.1,h6.1,h7.1,h8.1];rfl
theorem c5e{ok:Nat→Prop}{w:World}(r:b9):Rep ok w (.agg (b9.c r)) (.agg (a3h r)):=by
 simp only[Rep];exact⟨_,rfl,by simp[b9.c,a3h,l5,Rep,a3T],rfl⟩
theorem d3p{ok:Nat→Prop}{w:World}{r:b9}{vs:List Value}(h:l5 ok w [.agg (b9.c r)] vs):vs=[.agg (a3h r)]:=by
 match vs,h with
 |[v],h=>simp only[l5]at h;rw[c7J h.1]
 |[],h=>simp[l5]at h
 |_::_::_,h=>simp[l5]at h
theorem a8U(r_:b9)(r:ByteArray)(hm:N3 r_=some r):p0 Tryz.prog 92 [.agg (b9.c r_)] (fun x=>x=.v (.string r)):=by
 intro ok w vs hr _ hgi;rw[d3p hr];exact(c1l r_ r hm w hgi).mono fun e w' ⟨he,hb⟩=>⟨_,_,he,rfl,by simp[Rep,a3T],hb⟩
theorem c3s(r:b9)(b:Bool)(hm:w7 r=some b)(w:World)(hgi:GIW Tryz.prog w):Calls Tryz.prog 91 #[.agg (a3h r)] w fun e w'=>e=.returned (.bool b)∧Below w.heap.size w w':=by
 refine((C9 r _ hm).contract (w:=w) (vs:=[.agg (a3h r)]) ⟨c5e r,trivial⟩ hgi).mono fun e w' ⟨v,he,hr,hb⟩=>⟨?_,hb⟩
 simp only[Rep]at hr;rw[he,hr.1]
def a8D:Nat→ByteArray→Option (List Int×ByteArray)
 |0,s=>some ([],s)
 |k+1,s=>match a8D k s with
  |some (l,t)=>match b7r t with
   |some (v,r)=>some (l++ [v],r)
   |none=>none
  |none=>none
theorem a8E:∀ {k:Nat}{s t:ByteArray}{l:List Int},a8D k s=some (l,t)→l.length=k∧t.size≤s.size
 |0,s,t,l,h=>by simp only[a8D,Y9,a5l]at h;obtain⟨rfl,rfl⟩:=h;exact⟨rfl,y6 _⟩
 |k+1,s,t,l,h=>by
  simp only[a8D]at h;split at h
  ·rename_i l0 t0 h0;split at h
   ·rename_i v r h1;cases h;obtain⟨h2,h3⟩:=a8E h0;refine⟨by simp[h2],?_⟩;unfold b7r at h1;split at h1
    ·cases h1;exact z6 (b2H t0).2 h3
    ·cases h1
   ·cases h
  ·cases h
theorem b8x:∀ {k m:Nat}{s:ByteArray},a8D k s=none→k≤m→a8D m s=none
 |k,0,s,h,hm=>by
  have e:k=0:=Nat.le_zero.1 hm;rw[e]at h;exact h
 |k,m+1,s,h,hm=>by
  by_cases e:k=m+1
  ·rw[←e];exact h
  ·simp only[a8D,b8x h (show k≤m by omega)]
def b6D(l:List Int)(t:ByteArray):b9:=⟨⟨l.getD 0 0,l.getD 1 0⟩,l.getD 2 0,l.getD 3 0,l.getD 4 0,⟨l.getD 5 0,l.getD 6 0⟩,t⟩
def a5i:b9:=⟨⟨0,0⟩,0,0,0,⟨0,0⟩,⟨#[]⟩⟩
def N6(s:ByteArray):Option (b9×Bool):=gd (s.size≤281474976710656)<|
 match a8D 7 s with
 |none=>some (a5i,false)
 |some (l,t)=>Option.bind (w7 (b6D l t)) fun b=>
  if b=true then Option.bind (N3 (b6D l t)) fun x=>if(x.toList==s.toList)=true then some (b6D l t,true)else some (a5i,false)
  else some (a5i,false)
def b9F(n:Nat)(w:World)(res:b9×Bool)(e:Ending)(w':World):Prop:=e=.returned (.tuple #[.agg (a3h res.1),.bool res.2])∧Below n w w'
def dfr(n:Nat):Deferred:= { target:=.fn (.func 129) #[.pointer (some ⟨n,0,none⟩),.pointer (some ⟨n+1,0,none⟩)],args:= #[]}
structure c2v(n:Nat)(t:Array Value):Prop where
 t2:t[2]?=some (.pointer (some ⟨n,0,none⟩))
 t3:t[3]?=some (.pointer (some ⟨n+1,0,none⟩))
theorem c1f{n:Nat}{w':World}{t:Array Value}{r:b9}{b:Bool}(ht:c2v n t)(h1:w'.heap[n]?=some (.cells (a3h r) 38 (0,0)))(h2:w'.heap[n+1]?=some (.cells #[.bool b] 4 (0,0))):
 (results Tryz.f70 t).run Tryz.prog w'=.ok (.tuple #[.agg (a3h r),.bool b]) w':=by
 have c0:w'.cell? ⟨n,0,none⟩=some (.int .i64 r.At.Depot):=by rw[G4 h1];rfl
 have c1:w'.cell? ⟨n,1,none⟩=some (.int .i64 r.At.No):=by rw[G4 h1];rfl
 have c2:w'.cell? ⟨n,2,none⟩=some (.int .i64 r.Kind):=by rw[G4 h1];rfl
 have c3:w'.cell? ⟨n,3,none⟩=some (.int .i64 r.Day):=by rw[G4 h1];rfl
 have c4:w'.cell? ⟨n,4,none⟩=some (.int .i64 r.Known):=by rw[G4 h1];rfl
 have c5:w'.cell? ⟨n,5,none⟩=some (.int .i64 r.Of.Depot):=by rw[G4 h1];rfl
 have c6:w'.cell? ⟨n,6,none⟩=some (.int .i64 r.Of.No):=by rw[G4 h1];rfl
 have c7:w'.cell? ⟨n,7,none⟩=some (.string r.Text):=by rw[G4 h1];rfl
 have cb:w'.cell? ⟨n+1,0,none⟩=some (.bool b):=by rw[G4 h2];rfl
 simp[results,Tryz.results70,go_sem,ht.t2,ht.t3,c0,c1,c2,c3,c4,c5,c6,c7,cb,a3h]
theorem c6J{n:Nat}{w w':World}{t:Array Value}{r:b9}{b:Bool}(ht:c2v n t)(h1:w'.heap[n]?=some (.cells (a3h r) 38 (0,0)))(h2:w'.heap[n+1]?=some (.cells #[.bool b] 4 (0,0)))(hb:Below n w w'):
 Leaves Tryz.prog Tryz.f70 t (b9F n w (r,b)) [dfr n] .returning w':=by
 refine leaves_cons (f:=129) (args:= #[.pointer (some ⟨n,0,none⟩),.pointer (some ⟨n+1,0,none⟩)]) (by simp) (by simp[go_sem]) ?_;refine(c2M ⟨n,0,none⟩ ⟨n+1,0,none⟩ _).mono ?_;rintro e u' w'' ⟨rfl,rfl,rfl⟩;simp only[settle,Leaves];exact⟨_,c1f ht h1 h2,rfl,hb⟩
theorem b0K{n:Nat}{w w':World}{t:Array Value}{cs0:Array Value}{x0:Value}(ht:c2v n t)(h1:w'.heap[n]?=some (.cells cs0 38 (0,0)))(hs:cs0.size=8)(h2:w'.heap[n+1]?=some (.cells #[x0] 4 (0,0)))(hb:Below n w w'):
 Leaves Tryz.prog Tryz.f70 t (b9F n w (a5i,false)) [dfr n] (.panicking c6U) w':=by
 refine leaves_cons (f:=129) (args:= #[.pointer (some ⟨n,0,none⟩),.pointer (some ⟨n+1,0,none⟩)]) (by simp[c6U]) (by simp[go_sem]) ?_;refine(c6w n n (n+1) w' x0 cs0 (y6 _) (by omega) (by omega) h1 hs h2).mono ?_;rintro e u' w'' ⟨rfl,rfl,g1,g2,g3⟩;have hset:settle (.panicking [{ v:=.iface 182 (.agg #[]),recovered:=true}])=.returning:=by simp[settle]
 simp only[hset,Leaves];exact⟨_,c1f (r:=a5i) ht g1 g2,rfl,hb.trans g3⟩
def d1M(n:Nat)(s:ByteArray)(w:World)(i rest:Value)(wr:World):Prop:=
 ∃(k:Nat) (l:List Int) (t:ByteArray),k≤7∧i=.int .i64 k∧rest=.string t∧a8D k s=some (l,t)∧wr.heap[n]?=some (.cells (a3h a5i) 38 (0,0))∧wr.heap[n+1]?=some (.cells #[.bool false] 4 (0,0))∧
  wr.heap[n+2]?=some (.cells ((l++List.replicate (7-k) 0).map (Value.int .i64)).toArray 144 (0,0))∧Below n w wr∧n+3≤wr.heap.size
def stR(w:World)(n:Nat)(r:b9):World:=((((((((w.setCell ⟨n,0,none⟩ (.int .i64 r.At.Depot)).setCell ⟨n,1,none⟩ (.int .i64 r.At.No)).setCell ⟨n,2,none⟩ (.int .i64 r.Kind)).setCell ⟨n,3,none⟩ (.int .i64 r.Day)).setCell ⟨n,4,none⟩ (.int .i64 r.Known)).setCell ⟨n,5,none⟩ (.int .i64 r.Of.Depot)).setCell ⟨n,6,none⟩ (.int .i64 r.Of.No)).setCell ⟨n,7,none⟩ (.string r.Text))
theorem c8Z{w:World}{n:Nat}{r q:b9}(h:w.heap[n]?=some (.cells (a3h q) 38 (0,0))):(stR w n r).heap[n]?=some (.cells (a3h r) 38 (0,0)):=by
 have h8:=(C8 (j:=7) (v:=.string r.Text) (C8 (j:=6) (v:=.int .i64 r.Of.No) (C8 (j:=5) (v:=.int .i64 r.Of.Depot) (C8 (j:=4) (v:=.int .i64 r.Known) (C8 (j:=3) (v:=.int .i64 r.Day) (C8 (j:=2) (v:=.int .i64 r.Kind) (C8 (j:=1) (v:=.int .i64 r.At.No) (C8 (j:=0) (v:=.int .i64 r.At.Depot) h))))))));unfold stR;rw[h8];simp[a3h]
theorem c7d{w:World}{n b:Nat}{r:b9}(h:n≠b):(stR w n r).heap[b]?=w.heap[b]?:=by
 unfold stR;simp only[a2q h]
theorem c6Z{w:World}{n:Nat}{r:b9}:(stR w n r).heap.size=w.heap.size:=by unfold stR;simp only[a3v]
theorem b7N{w:World}{n:Nat}{r:b9}:Below n w (stR w n r):=(((((((((Below.refl n w).setCell (p:=⟨n,0,none⟩) (y6 _) _).setCell (p:=⟨n,1,none⟩) (y6 _) _).setCell (p:=⟨n,2,none⟩) (y6 _) _).setCell (p:=⟨n,3,none⟩) (y6 _) _).setCell (p:=⟨n,4,none⟩) (y6 _) _).setCell (p:=⟨n,5,none⟩) (y6 _) _).setCell (p:=⟨n,6,none⟩) (y6 _) _).setCell (p:=⟨n,7,none⟩) (y6 _) _)
theorem c6h{n:Nat}{s:ByteArray}{w wr w1:World}{k:Nat}{l:List Int}{t r:ByteArray}{v:Int}(hk:k<7)(hd:a8D k s=some (l,t))(hnum:b7r t=some (v,r))(h0:wr.heap[n]?=some (.cells (a3h a5i) 38 (0,0)))(h1:wr.heap[n+1]?=some (.cells #[.bool false] 4 (0,0)))
 (h2:wr.heap[n+2]?=some (.cells ((l++List.replicate (7-k) 0).map (Value.int .i64)).toArray 144 (0,0))) (hb:Below n w wr) (hsz:n+3≤wr.heap.size) (hb1:Below wr.heap.size wr w1):
 d1M n s w (.int .i64 ((k+1:Nat):Int)) (.string r) (w1.setCell ⟨n+2,k,none⟩ (.int .i64 v)):=by
 have hl:=(a8E hd).1;refine⟨k+1,l++ [v],r,by omega,rfl,rfl,by simp only[a8D,hd,hnum],?_,?_,?_,?_,?_⟩
 ·rw[a2q (by omega),hb1.block n (by omega)];exact h0
 ·rw[a2q (by omega),hb1.block (n+1) (by omega)];exact h1
 ·rw[C8 (cs:=((l++List.replicate (7-k) 0).map (Value.int .i64)).toArray) (T:=144) (fr:=(0,0)) (by rw[hb1.block (n+2) (by omega)];exact h2)];congr 2;apply N8;simp only[Array.toList_setIfInBounds];rw[show 7-k=(7-(k+1))+1 by omega,List.replicate_succ];simp[List.set_append,hl]
 ·exact(hb.trans (hb1.mono (by omega))).setCell (p:=⟨n+2,k,none⟩) (by simp) _
 ·rw[a3v];have:=hb1.size;omega
set_option maxRecDepth 100000
set_option maxHeartbeats 8000000
theorem c3u(s:ByteArray)(res:b9×Bool)(hm:N6 s=some res)(w:World)(hgi:GIW Tryz.prog w):Calls Tryz.prog 70 #[.string s] w (b9F w.heap.size w res):=by
 obtain⟨hs,hm⟩:=j0 hm;have HM:=P2 hm;clear hm
 go_enter_defers func70,Tryz.ntmps70
 go_wp2
 go_loopw [9,5] (fun i rest wr=>d1M w.heap.size s w i rest wr) (fun i _ _=>7-(intOf i).toNat)
 case atStart=>
  obtain⟨wa,hwa⟩:∃wa,wa=w.alloc (.cells (a3h a5i) 38):=⟨_,rfl⟩;have hsa:wa.heap.size=w.heap.size+1:=by rw[hwa];simp
  have h7:wa.heap[w.heap.size]?=some (.cells (a3h a5i) 38 (0,0)):=by rw[hwa];exact(a2U w _).1
  have hwb:Below w.heap.size w wa:=by rw[hwa];exact(Below.refl _ _).alloc (y6 _) _
  obtain⟨wb,hwb2⟩:∃wb,wb=wa.alloc (.cells #[.bool false] 4):=⟨_,rfl⟩;have hsb:wb.heap.size=w.heap.size+2:=by rw[hwb2];simp[hsa]
  have h8:wb.heap[w.heap.size+1]?=some (.cells #[.bool false] 4 (0,0)):=by rw[hwb2,←hsa];exact(a2U wa _).1
  have h9:wb.heap[w.heap.size]?=some (.cells (a3h a5i) 38 (0,0)):=by rw[hwb2,(a2U wa _).2 _ (by omega)];exact h7
  have hbb:Below w.heap.size w wb:=by rw[hwb2];exact hwb.alloc (by omega) _
  change d1M w.heap.size s w (.int .i64 0) (.string s) ((((w.alloc (.cells (a3h a5i) 38)).alloc (.cells #[.bool false] 4)).alloc (.cells ((([]:List Int)++List.replicate 7 0).map (Value.int .i64)).toArray 144)));rw[←hwa,←hwb2];refine⟨0,[],s,by omega,rfl,rfl,rfl,?_,?_,?_,hbb.alloc (by omega) _,by simp[hsb]⟩
  ·rw[(a2U wb _).2 _ (by omega)];exact h9
  ·rw[(a2U wb _).2 _ (by omega)];exact h8
  ·rw[←hsb];exact(a2U wb _).1
 case round=>
  obtain⟨k,l,t,hk,rfl,rfl,hd,h0,h1,h2,hb,hsz⟩:=hrel;have hts:=(a8E hd).2;have hll:=(a8E hd).1;have hgr:=GIW.below hgi hb;by_cases hlt:k<7
  ·have hki:(k:Int)<7:=by omega
   cases hnum:b7r t with
   |none=>
    have hres:res=(a5i,false):=by
     have h7:a8D 7 s=none:=b8x (k:=k+1) (by simp only[a8D,hd,hnum]) (by omega);have:=HM.out;rw[h7]at this;exact(E0 this).symm
    clear hll;have HD:=P2 hd;clear hd
    go_wp2_with fail
    refine(c5H t (by omega) hnum wr hgr).mono ?_;rintro e w1 ⟨rfl,hb1⟩;subst hres;refine b0K (cs0:=a3h a5i) (x0:=.bool false) ⟨rfl,rfl⟩ ?_ rfl ?_ (hb.trans (hb1.mono (by omega)))
    ·rw[hb1.block _ (by omega)];exact h0
    ·rw[hb1.block _ (by omega)];exact h1
   |some q=>
    obtain⟨v,r⟩:=q;have R:=fun w1 hb1=>c6h (w1:=w1) hlt hd hnum h0 h1 h2 hb hsz hb1
    have hc:∀w1,Below wr.heap.size wr w1→w1.cell? ⟨w.heap.size+1+1,k,none⟩=some (.int .i64 0):=fun w1 hb1=>by
     have h3:w1.heap[w.heap.size+1+1]?=_:=(hb1.block (w.heap.size+2) (by omega)).trans h2;rw[G4 h3];simp[hll,List.getElem?_append,List.getElem?_replicate,hlt];omega
    have hf:∀w1,Below wr.heap.size wr w1→w1.frozen? ⟨w.heap.size+1+1,k,none⟩=false:=fun w1 hb1=>by
     have h3:w1.heap[w.heap.size+1+1]?=_:=(hb1.block (w.heap.size+2) (by omega)).trans h2;exact U1 h3 k
    have HC:=P2 hc;have HF:=P2 hf;have HR:=P2 R;clear hc hf R hd hll h0 h1 h2
    go_wp2_with fail
    refine(c5S t (by omega) v r hnum wr hgr).mono ?_;rintro e w1 ⟨rfl,hb1⟩;have c1:=HC.out w1 hb1;have f1:=HF.out w1 hb1;have R1:=HR.out w1 hb1;clear hnum
    go_wp2
    go_roundw
    case rel=>exact R1
    case measure=>simp[intOf];omega
  ·obtain rfl:k=7:=by omega
   have HM2:=HM.out;rw[hd]at HM2;simp only at HM2
   have h2':wr.heap[w.heap.size+1+1]?=some (.cells (l.map (Value.int .i64)).toArray 144 (0,0)):=by
    have:(l++List.replicate (7-7) 0)=l:=by simp
    rw[this]at h2;exact h2
   have hL:=hll
   match l,hL with
   |[a1,a2,a3,a4,a5,a6,a7],_=>
   have c0:wr.cell? ⟨w.heap.size+1+1,0,none⟩=some (.int .i64 a1):=by rw[G4 h2'];rfl
   have c1:wr.cell? ⟨w.heap.size+1+1,1,none⟩=some (.int .i64 a2):=by rw[G4 h2'];rfl
   have c2:wr.cell? ⟨w.heap.size+1+1,2,none⟩=some (.int .i64 a3):=by rw[G4 h2'];rfl
   have c3:wr.cell? ⟨w.heap.size+1+1,3,none⟩=some (.int .i64 a4):=by rw[G4 h2'];rfl
   have c4:wr.cell? ⟨w.heap.size+1+1,4,none⟩=some (.int .i64 a5):=by rw[G4 h2'];rfl
   have c5:wr.cell? ⟨w.heap.size+1+1,5,none⟩=some (.int .i64 a6):=by rw[G4 h2'];rfl
   have c6:wr.cell? ⟨w.heap.size+1+1,6,none⟩=some (.int .i64 a7):=by rw[G4 h2'];rfl
   have HD:=P2 hd;have H0:=P2 h0;have H1:=P2 h1;have HM3:=P2 HM2;clear hd hll h2 h2' HM2 HM;have d0:wr.cell? ⟨w.heap.size,0,none⟩=some (.int .i64 0):=by rw[G4 H0.out];rfl
   have f0:wr.frozen? ⟨w.heap.size,0,none⟩=false:=U1 H0.out 0;have d1:wr.cell? ⟨w.heap.size,1,none⟩=some (.int .i64 0):=by rw[G4 H0.out];rfl
   have f1:wr.frozen? ⟨w.heap.size,1,none⟩=false:=U1 H0.out 1;have d2:wr.cell? ⟨w.heap.size,2,none⟩=some (.int .i64 0):=by rw[G4 H0.out];rfl
   have f2:wr.frozen? ⟨w.heap.size,2,none⟩=false:=U1 H0.out 2;have d3:wr.cell? ⟨w.heap.size,3,none⟩=some (.int .i64 0):=by rw[G4 H0.out];rfl
   have f3:wr.frozen? ⟨w.heap.size,3,none⟩=false:=U1 H0.out 3;have d4:wr.cell? ⟨w.heap.size,4,none⟩=some (.int .i64 0):=by rw[G4 H0.out];rfl
   have f4:wr.frozen? ⟨w.heap.size,4,none⟩=false:=U1 H0.out 4;have d5:wr.cell? ⟨w.heap.size,5,none⟩=some (.int .i64 0):=by rw[G4 H0.out];rfl
   have f5:wr.frozen? ⟨w.heap.size,5,none⟩=false:=U1 H0.out 5;have d6:wr.cell? ⟨w.heap.size,6,none⟩=some (.int .i64 0):=by rw[G4 H0.out];rfl
   have f6:wr.frozen? ⟨w.heap.size,6,none⟩=false:=U1 H0.out 6;have d7:wr.cell? ⟨w.heap.size,7,none⟩=some (.string ⟨#[]⟩):=by rw[G4 H0.out];rfl
   have f7:wr.frozen? ⟨w.heap.size,7,none⟩=false:=U1 H0.out 7;clear h0 h1
   go_wp2_with fail
   obtain⟨r,Hr⟩:∃r:b9,Hid (r=b6D [a1,a2,a3,a4,a5,a6,a7] t):=⟨_,P2 rfl⟩;have HM4:=HM3.out;rw[←Hr.out]at HM4;have hv: #[Value.int .i64 a1,.int .i64 a2,.int .i64 a3,.int .i64 a4,.int .i64 a5,.int .i64 a6,.int .i64 a7,.string t]=a3h r:=by rw[Hr.out];rfl
   have hst:((((((((wr.setCell ⟨w.heap.size,0,none⟩ (.int .i64 a1)).setCell ⟨w.heap.size,1,none⟩ (.int .i64 a2)).setCell ⟨w.heap.size,2,none⟩ (.int .i64 a3)).setCell ⟨w.heap.size,3,none⟩ (.int .i64 a4)).setCell ⟨w.heap.size,4,none⟩ (.int .i64 a5)).setCell ⟨w.heap.size,5,none⟩ (.int .i64 a6)).setCell ⟨w.heap.size,6,none⟩ (.int .i64 a7)).setCell ⟨w.heap.size,7,none⟩ (.string t))=stR wr w.heap.size r:=by rw[Hr.out];rfl
   rw[hv,hst];have g0:=c8Z (r:=r) H0.out;have g1:(stR wr w.heap.size r).heap[w.heap.size+1]?=_:=(c7d (by omega)).trans H1.out;have gb:Below w.heap.size w (stR wr w.heap.size r):=hb.trans b7N;have gsz:w.heap.size+3≤(stR wr w.heap.size r).heap.size:=by rw[c6Z];exact hsz
   have gg:=GIW.below hgi gb;generalize stR wr w.heap.size r=W1 at g0 g1 gb gsz gg⊢;clear hv hst c0 c1 c2 c3 c4 c5 c6 d0 d1 d2 d3 d4 d5 d6 d7 f0 f1 f2 f3 f4 f5 f6 f7 Hr HM3 HD H0 H1 hb hsz hgr hL;cases hir:w7 r with
   |none=>rw[hir]at HM4;cases HM4
   |some b=>
   rw[hir]at HM4;simp only[j7]at HM4;refine(c3s r b hir W1 gg).mono ?_;rintro e w2 ⟨rfl,hb2⟩;have k0:w2.heap[w.heap.size]?=_:=(hb2.block _ (by omega)).trans g0;have k1:w2.heap[w.heap.size+1]?=_:=(hb2.block _ (by omega)).trans g1;have kb:Below w.heap.size w w2:=gb.trans (hb2.mono (by omega));have ksz:w.heap.size+3≤w2.heap.size:=by have:=hb2.size;omega
   have kg:=GIW.below hgi kb;clear g0 g1 gb gsz gg hb2;cases b with
   |false=>
    simp only[M4,G8]at HM4;have hres:res=(a5i,false):=(E0 HM4).symm;clear HM4
    go_wp2
    simp[Instr.panic,Result.andThen,Oper.upon,Exit.then];exact b0K (cs0:=a3h r) (x0:=.bool false) ⟨rfl,rfl⟩ k0 rfl k1 kb
   |true=>
    simp only[D2]at HM4;cases hen:N3 r with
    |none=>rw[hen]at HM4;cases HM4
    |some x=>
    rw[hen]at HM4;simp only[j7]at HM4;have c0:w2.cell? ⟨w.heap.size,0,none⟩=some (.int .i64 r.At.Depot):=by rw[G4 k0];rfl
    have c1:w2.cell? ⟨w.heap.size,1,none⟩=some (.int .i64 r.At.No):=by rw[G4 k0];rfl
    have c2:w2.cell? ⟨w.heap.size,2,none⟩=some (.int .i64 r.Kind):=by rw[G4 k0];rfl
    have c3:w2.cell? ⟨w.heap.size,3,none⟩=some (.int .i64 r.Day):=by rw[G4 k0];rfl
    have c4:w2.cell? ⟨w.heap.size,4,none⟩=some (.int .i64 r.Known):=by rw[G4 k0];rfl
    have c5:w2.cell? ⟨w.heap.size,5,none⟩=some (.int .i64 r.Of.Depot):=by rw[G4 k0];rfl
    have c6:w2.cell? ⟨w.heap.size,6,none⟩=some (.int .i64 r.Of.No):=by rw[G4 k0];rfl
    have c7:w2.cell? ⟨w.heap.size,7,none⟩=some (.string r.Text):=by rw[G4 k0];rfl
    have K0:=P2 k0;have K1:=P2 k1;have HM5:=P2 HM4;clear k0 k1 HM4 hir
    go_wp2_with fail
    refine(c1l r x hen w2 kg).mono ?_;rintro e w3 ⟨rfl,hb3⟩;have HM6:=HM5.out;have m0:w3.heap[w.heap.size]?=_:=(hb3.block _ (by omega)).trans K0.out;have m1:w3.heap[w.heap.size+1]?=_:=(hb3.block _ (by omega)).trans K1.out;have mb:Below w.heap.size w w3:=kb.trans (hb3.mono (by omega));clear HM5 hb3 kb kg ksz K0 K1 c0 c1 c2 c3 c4 c5 c6 c7;cases hx:(x.toList==s.toList)with
    |false=>
     rw[hx]at HM6;have hres:res=(a5i,false):=(E0 HM6).symm;clear HM6;subst hres
     go_wp2
     simp[Instr.panic,Result.andThen,Oper.upon,Exit.then];exact b0K (cs0:=a3h r) (x0:=.bool false) ⟨rfl,rfl⟩ m0 rfl m1 mb
    |true=>
     rw[hx]at HM6;have hres:res=(r,true):=(E0 HM6).symm;clear HM6;subst hres;have c0:w3.cell? ⟨w.heap.size,0,none⟩=some (.int .i64 r.At.Depot):=by rw[G4 m0];rfl
     have f0:w3.frozen? ⟨w.heap.size,0,none⟩=false:=U1 m0 0;have c1:w3.cell? ⟨w.heap.size,1,none⟩=some (.int .i64 r.At.No):=by rw[G4 m0];rfl
     have f1:w3.frozen? ⟨w.heap.size,1,none⟩=false:=U1 m0 1;have c2:w3.cell? ⟨w.heap.size,2,none⟩=some (.int .i64 r.Kind):=by rw[G4 m0];rfl
     have f2:w3.frozen? ⟨w.heap.size,2,none⟩=false:=U1 m0 2;have c3:w3.cell? ⟨w.heap.size,3,none⟩=some (.int .i64 r.Day):=by rw[G4 m0];rfl
     have f3:w3.frozen? ⟨w.heap.size,3,none⟩=false:=U1 m0 3;have c4:w3.cell? ⟨w.heap.size,4,none⟩=some (.int .i64 r.Known):=by rw[G4 m0];rfl
     have f4:w3.frozen? ⟨w.heap.size,4,none⟩=false:=U1 m0 4;have c5:w3.cell? ⟨w.heap.size,5,none⟩=some (.int .i64 r.Of.Depot):=by rw[G4 m0];rfl
     have f5:w3.frozen? ⟨w.heap.size,5,none⟩=false:=U1 m0 5;have c6:w3.cell? ⟨w.heap.size,6,none⟩=some (.int .i64 r.Of.No):=by rw[G4 m0];rfl
     have f6:w3.frozen? ⟨w.heap.size,6,none⟩=false:=U1 m0 6;have c7:w3.cell? ⟨w.heap.size,7,none⟩=some (.string r.Text):=by rw[G4 m0];rfl
     have f7:w3.frozen? ⟨w.heap.size,7,none⟩=false:=U1 m0 7;have cb:w3.cell? ⟨w.heap.size+1,0,none⟩=some (.bool false):=by rw[G4 m1];rfl
     have fb:w3.frozen? ⟨w.heap.size+1,0,none⟩=false:=U1 m1 0;have M0:=P2 m0;have M1:=P2 m1;clear m0 m1
     go_wp2
     have g0:((stR w3 w.heap.size r).setCell ⟨w.heap.size+1,0,none⟩ (.bool true)).heap[w.heap.size]?=some (.cells (a3h r) 38 (0,0)):=(a2q (by omega)).trans (c8Z M0.out)
     have g1:((stR w3 w.heap.size r).setCell ⟨w.heap.size+1,0,none⟩ (.bool true)).heap[w.heap.size+1]?=some (.cells #[.bool true] 4 (0,0)):=
      (C8 (cs:= #[.bool false]) (T:=4) (fr:=(0,0)) ((c7d (by omega)).trans M1.out)).trans rfl
     exact c6J (r:=r) (b:=true) ⟨rfl,rfl⟩ g0 g1 ((mb.trans b7N).setCell (p:=⟨w.heap.size+1,0,none⟩) (by simp) _)
theorem b6O(s:ByteArray)(r:b9×Bool)(hm:N6 s=some r):p0 Tryz.prog 70 [.v (.string s)] (fun x=>x=.tup [.agg (b9.c r.1),DB r.2]):=by
 intro ok w vs hr _ hgi;rw[d0Y hr]
 exact(c3u s r hm w hgi).mono fun e w' ⟨he,hb⟩=>⟨_,_,he,rfl,by
  simp only[Rep];exact⟨_,rfl,c5e r.1,⟨rfl,rfl⟩,trivial⟩,hb⟩
set_option maxRecDepth 100000
set_option maxHeartbeats 8000000
def a8x(x y:Int):Int:=if x<y then-1 else if x>y then 1 else 0
theorem a9N(x:Int)(w:World):Calls Tryz.prog 178 #[.int .i64 x] w fun e w'=>e=.returned (.bool false)∧w'=w:=by
 have h:(x !=x)=false:=by simp
 go_enter func178,Tryz.ntmps178
 go_wp2
 exact a5G (v:=.bool false) (by simp[results,Tryz.results178,go_sem]) rfl ⟨rfl,rfl⟩
theorem c8r(x y:Int)(w:World):Calls Tryz.prog 166 #[.int .i64 x,.int .i64 y] w fun e w'=>e=.returned (.int .i64 (a8x x y))∧w'=w:=by
 unfold a8x;by_cases h1:x<y
 ·rw[k9 h1]
  go_enter func166,Tryz.ntmps166
  go_wp2_with fail
  refine(a9N _ _).mono ?_;rintro e w' ⟨rfl,rfl⟩
  go_wp2_with fail
  refine(a9N _ _).mono ?_;rintro e w' ⟨rfl,rfl⟩
  go_wp2
  exact a5G (v:=.int .i64 (-1)) (by simp[results,Tryz.results166,go_sem]) rfl ⟨rfl,rfl⟩
 ·rw[j6 h1];by_cases h2:x>y
  ·rw[k9 h2]
   go_enter func166,Tryz.ntmps166
   go_wp2_with fail
   refine(a9N _ _).mono ?_;rintro e w' ⟨rfl,rfl⟩
   go_wp2_with fail
   refine(a9N _ _).mono ?_;rintro e w' ⟨rfl,rfl⟩
   go_wp2
   exact a5G (v:=.int .i64 1) (by simp[results,Tryz.results166,go_sem]) rfl ⟨rfl,rfl⟩
  ·rw[j6 h2]
   go_enter func166,Tryz.ntmps166
   go_wp2_with fail
   refine(a9N _ _).mono ?_;rintro e w' ⟨rfl,rfl⟩
   go_wp2_with fail
   refine(a9N _ _).mono ?_;rintro e w' ⟨rfl,rfl⟩
   go_wp2
   exact a5G (v:=.int .i64 0) (by simp[results,Tryz.results166,go_sem]) rfl ⟨rfl,rfl⟩
def OrR(b:Nat)(x y:Int)(w:World)(i v:Value)(wr:World):Prop:=∃k:Nat,k≤2∧i=.int .i64 k∧wr=w∧(1≤k→x=0)∧(2≤k→y=0)
theorem d4B(b:Nat)(x y:Int)(w:World)(h0:w.cell? ⟨b,0,none⟩=some (.int .i64 x))(h1:w.cell? ⟨b,1,none⟩=some (.int .i64 y)):Calls Tryz.prog 165 #[.slice (some ⟨b,0,none⟩) 2 2] w fun e w'=>e=.returned (.int .i64 (if x=0 then y else x))∧w'=w:=by
 go_enter func165,Tryz.ntmps165
 go_wp2
 go_loop [8,5] (fun i v=>OrR b x y w i v w) (fun i _=>2-(intOf i).toNat)
 case atStart=>exact⟨0,by omega,rfl,rfl,by omega,by omega⟩
 case round=>
  obtain⟨k,hk,rfl,_,hx,hy⟩:=hrel;by_cases hlt:k<2
  ·by_cases hk0:k=0
   ·subst hk0;by_cases hx0:x=0
    ·subst hx0
     go_wp2
     go_round
     case rel=>exact⟨1,by omega,rfl,rfl,fun _=>rfl,by omega⟩
     case measure=>simp[intOf]
    ·go_wp2
     exact a5G (v:=.int .i64 x) (by simp[results,Tryz.results165,go_sem]) rfl ⟨rfl,rfl⟩
   ·obtain rfl:k=1:=by omega
    obtain rfl:x=0:=hx (by omega);by_cases hy0:y=0
    ·subst hy0
     go_wp2
     go_round
     case rel=>exact⟨2,by omega,rfl,rfl,fun _=>rfl,fun _=>rfl⟩
     case measure=>simp[intOf]
    ·go_wp2
     exact a5G (v:=.int .i64 y) (by simp[results,Tryz.results165,go_sem]) rfl ⟨rfl,rfl⟩
  ·obtain rfl:k=2:=by omega
   obtain rfl:x=0:=hx (by omega);obtain rfl:y=0:=hy (by omega)
   go_wp2
   exact a5G (v:=.int .i64 0) (by simp[results,Tryz.results165,go_sem]) rfl ⟨rfl,rfl⟩
def Gro(w w':World):Prop:=∃q os,w'=Go.Sort.grow (w.drewN q) os
theorem Gro.refl(w:World):Gro w w:=⟨0, #[],by simp[Go.Sort.grow,World.drewN]⟩
theorem Gro.alloc{w w':World}(h:Gro w w')(o:Obj):Gro w (w'.alloc o):=by
 obtain⟨q,os,rfl⟩:=h;exact⟨q,os.push o,by simp[Go.Sort.grow,World.alloc,-World.alloc_eq]⟩
theorem Gro.drew{w w':World}(h:Gro w w'):Gro w w'.drew:=by
 obtain⟨q,os,rfl⟩:=h;exact⟨q+1,os,by simp[Go.Sort.grow,World.drewN,World.drew,-World.drew_eq,Nat.add_assoc]⟩
theorem Gro.trans{w w1 w2:World}(h:Gro w w1)(k:Gro w1 w2):Gro w w2:=by
 obtain⟨q,os,rfl⟩:=h;obtain⟨q2,os2,rfl⟩:=k;refine⟨q+q2,os++os2,?_⟩;simp[Go.Sort.grow,World.drewN,Nat.add_assoc,Array.append_assoc]
def orI(x y:Int):Int:=if x=0 then y else x
def d0O(w:World)(v:Int)(e:Ending)(w':World):Prop:=e=.returned (.int .i64 v)∧Gro w w'
theorem d2Y(b:Nat)(x y:Int)(w:World)(h0:w.cell? ⟨b,0,none⟩=some (.int .i64 x))(h1:w.cell? ⟨b,1,none⟩=some (.int .i64 y)):Calls Tryz.prog 165 #[.slice (some ⟨b,0,none⟩) 2 2] w fun e w'=>e=.returned (.int .i64 (orI x y))∧w'=w:=d4B b x y w h0 h1
theorem c6k(a b c d:Int)(w:World):Calls Tryz.prog 147 #[.agg #[.int .i64 a,.int .i64 b],.agg #[.int .i64 c,.int .i64 d]] w (d0O w (orI (a8x a c) (a8x b d))):=by
 obtain⟨x,hx⟩:∃x,x=a8x a c:=⟨_,rfl⟩;obtain⟨y,hy⟩:∃y,y=a8x b d:=⟨_,rfl⟩;have c1:=fun w=>c8r a c w
 have c2:=fun w=>c8r b d w
 rw[←hx]at c1⊢;rw[←hy]at c2⊢;clear hx hy
 go_enter func147,Tryz.ntmps147
 go_wp2
 have hG:Gro w ((w.alloc (.cells #[.int .i64 a,.int .i64 b] 36)).alloc (.cells #[.int .i64 c,.int .i64 d] 36)):=((Gro.refl w).alloc _).alloc _
 have h0:((w.alloc (.cells #[.int .i64 a,.int .i64 b] 36)).alloc (.cells #[.int .i64 c,.int .i64 d] 36)).heap[w.heap.size]?=some (.cells #[.int .i64 a,.int .i64 b] 36 (0,0)):=by
  rw[(a2U _ _).2 _ (by simp)];exact(a2U _ _).1
 have h1:((w.alloc (.cells #[.int .i64 a,.int .i64 b] 36)).alloc (.cells #[.int .i64 c,.int .i64 d] 36)).heap[w.heap.size+1]?=some (.cells #[.int .i64 c,.int .i64 d] 36 (0,0)):=by
  have:=(a2U (w.alloc (.cells #[.int .i64 a,.int .i64 b] 36)) (.cells #[.int .i64 c,.int .i64 d] 36)).1;rw[show(w.alloc (.cells #[.int .i64 a,.int .i64 b] 36)).heap.size=w.heap.size+1 by simp]at this;exact this
 generalize (w.alloc (.cells #[.int .i64 a,.int .i64 b] 36)).alloc (.cells #[.int .i64 c,.int .i64 d] 36)=W at hG h0 h1⊢;have e0:W.cell? ⟨w.heap.size,0,none⟩=some (.int .i64 a):=by rw[G4 h0];rfl
 have e1:W.cell? ⟨w.heap.size,1,none⟩=some (.int .i64 b):=by rw[G4 h0];rfl
 have e2:W.cell? ⟨w.heap.size+1,0,none⟩=some (.int .i64 c):=by rw[G4 h1];rfl
 have e3:W.cell? ⟨w.heap.size+1,1,none⟩=some (.int .i64 d):=by rw[G4 h1];rfl
 have hlt:=(Z8.1 h1).1;clear h0 h1
 go_still_tail 10,(by kernel_rfl)
 still_call (c1 _)
 repeat still_step
 still_call (c2 _)
 refine wpStill_nil ?_;change wpList _ _ _ _ _ W.drew;have hG2:Gro w W.drew:=hG.drew;generalize W.drew=V at hG2⊢;clear hG e0 e1 e2 e3 c1 c2 hlt
 go_wp2_with fail
 have hv:=(a2U V (.cells #[.int .i64 x,.int .i64 y] 3)).1;refine(d2Y V.heap.size x y _ (by rw[G4 hv];rfl) (by rw[G4 hv];rfl)).mono ?_;rintro e w' ⟨rfl,rfl⟩;clear hv
 go_wp2
 exact a5G (v:=.int .i64 (orI x y)) (by simp[results,Tryz.results147,go_sem]) rfl ⟨rfl,hG2.alloc _⟩
def b2r(a b:b9):Int:=orI (a8x a.At.Depot b.At.Depot) (a8x a.At.No b.At.No)
theorem d1Y(a b:b9)(w:World):Calls Tryz.prog 149 #[.agg (a3h a),.agg (a3h b)] w (d0O w (b2r a b)):=by
 have hc:=fun w=>c6k a.At.Depot a.At.No b.At.Depot b.At.No w
 unfold b2r a3h;generalize orI (a8x a.At.Depot b.At.Depot) (a8x a.At.No b.At.No)=r at hc⊢
 go_enter func149,Tryz.ntmps149
 go_wp2_with fail
 refine(hc _).mono ?_;rintro e w' ⟨rfl,hG⟩;have hG2:Gro w w':=(((Gro.refl w).alloc _).alloc _).trans hG;clear hG hc
 go_wp2
 exact a5G (v:=.int .i64 r) (by simp[results,Tryz.results149,go_sem]) rfl ⟨rfl,hG2⟩
set_option maxRecDepth 100000
set_option maxHeartbeats 8000000
def a2n(r:b9):List Value:=[.int .i64 r.At.Depot,.int .i64 r.At.No,.int .i64 r.Kind,.int .i64 r.Day,.int .i64 r.Known,.int .i64 r.Of.Depot,.int .i64 r.Of.No,.string r.Text]
theorem b1I(r:b9):(a2n r).length=8:=rfl
def a5w(l:List b9):Array b9:=Go.Sort.pdq (Go.Proofs.ltOf b2r) l.toArray 0 l.toArray.size (Lib.bitLen l.toArray.size) true true
def A0(l:List b9):List b9:=(a5w l).toList
theorem c1h:Go.Sort.SWO (Go.Proofs.ltOf b2r):=by
 have key:∀a b:b9,Go.Proofs.ltOf b2r a b=true↔(a.At.Depot<b.At.Depot∨(a.At.Depot=b.At.Depot∧a.At.No<b.At.No)):=by
  intro a b;unfold Go.Proofs.ltOf;rw[decide_eq_true_iff];unfold b2r
  have hc:∀x y:Int,(a8x x y= -1∧x<y)∨(a8x x y=1∧y<x)∨(a8x x y=0∧x=y):=fun x y=>by
   unfold a8x;by_cases h1:x<y
   ·exact .inl ⟨by rw[k9 h1],h1⟩
   ·by_cases h2:x>y
    ·exact .inr (.inl ⟨by rw[j6 h1,k9 h2],h2⟩)
    ·exact .inr (.inr ⟨by rw[j6 h1,j6 h2],by omega⟩)
  rcases hc a.At.Depot b.At.Depot with⟨e1,g1⟩|⟨e1,g1⟩|⟨e1,g1⟩<;>rcases hc a.At.No b.At.No with⟨e2,g2⟩|⟨e2,g2⟩|⟨e2,g2⟩<;>rw[e1,e2]<;>simp[orI]<;>omega
 have kf:∀a b:b9,Go.Proofs.ltOf b2r a b=false↔¬(a.At.Depot<b.At.Depot∨(a.At.Depot=b.At.Depot∧a.At.No<b.At.No)):=by
  intro a b;rw[←key];cases Go.Proofs.ltOf b2r a b<;>simp
 refine⟨fun x=>?_,fun x y z h1 h2=>?_,fun x y z h1 h2=>?_⟩
 ·rw[kf];omega
 ·rw[key]at h1 h2⊢;omega
 ·rw[kf]at h1 h2⊢;omega
theorem c7x(blk off size:Nat)(w:World):Go.Proofs.CmpLays Tryz.prog 149 #[] a2n 8 b2r blk off size w:=by
 intro m os dk _ x y;refine(d1Y x y _).mono fun e w' ⟨he,q,os',hw⟩=>⟨he,q,os',hw⟩
theorem c1m{α:Type}[Inhabited α]{c:α→List Value}{k:Nat}(hk:∀x,(c x).length=k)(h0:0<k):∀(l:List α) (t:Nat),t<l.length*k→(l.flatMap c)[t]?=some ((c l.toArray[t / k]!)[t % k]!)
 |[],t,h=>by simp at h
 |x::l,t,h=>by
  simp only[U0,Y0]at h⊢;by_cases ht:t<k
  ·have e1:t / k=0:=Nat.div_eq_of_lt ht;have e2:t % k=t:=Nat.mod_eq_of_lt ht;rw[b3O (by rw[hk];exact ht),e1,e2];have hx:t<(c x).length:=by rw[hk];exact ht
   simp[hx]
  ·rw[b7X (by rw[hk];omega),hk];have h1:t-k<l.length*k:=by rw[R7]at h;omega
   rw[c1m hk h0 l (t-k) h1]
   have e1:t / k=(t-k) / k+1:=by
    have:t=(t-k)+k:=by omega
    conv=>lhs;rw[this]
    rw[Nat.add_div_right _ h0]
   have e2:t % k=(t-k) % k:=by
    have:t=(t-k)+k:=by omega
    conv=>lhs;rw[this]
    rw[Nat.add_mod_right]
   rw[e1,e2];have h2:(t-k) / k<l.length:=Nat.div_lt_of_lt_mul (by rw[Nat.mul_comm];exact h1);simp[h2]
theorem b8h(l:List b9):Go.Sort.flatK a2n 8 l.toArray=(l.flatMap a2n).toArray:=by
 apply N8;apply List.ext_getElem?;intro t;simp only[Go.Sort.flatK,Array.toList_map,Array.toList_range,List.getElem?_map,b0M];by_cases ht:t<l.length*8
 ·rw[c1m b1I (by decide) l t ht];simp[ht]
 ·have:(l.flatMap a2n).length=l.length*8:=by
   clear ht
   induction l with
   |nil=>rfl
   |cons x l ih=>simp only[U0,O6,b1I,ih,Y0];omega
  rw[b2t (by simp;omega),b2t (by omega)];rfl
theorem a1k(l:List b9):(l.flatMap a2n).length=l.length*8:=by
 induction l with
 |nil=>rfl
 |cons x l ih=>simp only[U0,O6,b1I,ih,Y0];omega
theorem a9f(l:List b9):Go.Sort.PermIn 0 l.toArray.size l.toArray (a5w l)∧Go.Sort.SortedIn (Go.Proofs.ltOf b2r) 0 l.toArray.size (a5w l):=
 Go.Sort.pdq_sorts (Go.Proofs.ltOf b2r) c1h l.toArray 0 l.toArray.size (Lib.bitLen l.toArray.size) true true (L0 _) (y6 _) (Or.inl rfl)
theorem a2L(l:List b9):(A0 l).length=l.length:=by
 have:=(a9f l).1.1;simpa[A0]using this
def c6W(g:Nat)(l:List b9)(w:World)(e:Ending)(w':World):Prop:=e=.returned (.tuple #[])∧w'.heap[g]?=some (.cells ((A0 l).flatMap a2n).toArray 38 (0,0))∧(∀b,b<w.heap.size→b≠g→w'.heap[b]?=w.heap[b]?)∧w.heap.size≤w'.heap.size∧w'.os=w.os∧w'.tape=w.tape∧w'.output=w.output
theorem b9j(F cur:Array Value)(h:F.size=cur.size):Go.Sort.putCells id 0 F cur=F:=by
 apply Array.ext
 ·simp[Go.Sort.putCells,h]
 ·intro i h1 h2;simp[Go.Sort.putCells,h2]
theorem d1S(l:List b9)(g cap:Nat)(w:World)(hg:w.heap[g]?=some (.cells (l.flatMap a2n).toArray 38 (0,0)))(hl:l.length<4611686018427387904):Calls Tryz.prog 148 #[.slice (some ⟨g,0,none⟩) l.length cap,.func (.func 149) #[] #[]] w (c6W g l w):=by
 have hlt:=(Z8.1 hg).1
 have hH:Go.Sort.HoldsK a2n 8 w g 0 l.toArray:=by
  intro j hj;rw[b8h]at hj⊢;have hj':j<(l.flatMap a2n).length:=by simpa using hj
  refine⟨?_,U1 hg _⟩;rw[a0k,G4 hg];have h4:(l.flatMap a2n)[j]?=some (l.flatMap a2n)[j]:=J7 hj';simp only[List.getElem?_toArray,h4];simp[h4]
 have key:=Go.Proofs.AnyQ.slices_SortFunc_eq c5N 8 isAgg38 sizeOf38 a2n b1I (fun x v hv=>by
  simp only[a2n,u9,a8m,or_false]at hv;rcases hv with rfl|rfl|rfl|rfl|rfl|rfl|rfl|rfl<;>rfl) b2r c1h 149 #[] g 0 cap l.toArray w (enters_of func149 (by kernel_rfl) rfl) (c7x g 0 l.toArray.size w) hH hlt (by simpa using hl)
 refine key.mono fun e w' ⟨he,n,os,hw⟩=>⟨he,?_,fun b hb hne=>?_,?_,?_,?_,?_⟩
 ·rw[hw];unfold Go.Proofs.sortWorldK Go.Sort.grow
  have hm:(Go.Sort.putRowK a2n 8 (Go.Sort.ahead w n) g 0 (a5w l)).heap[g]?=some (.cells ((A0 l).flatMap a2n).toArray 38 (0,0)):=by
   unfold Go.Sort.putRowK Go.Sort.putRow Go.Sort.mapBlock;rw[show a5w l=(A0 l).toArray by simp[A0],b8h];simp only[Go.Sort.ahead,Array.getElem?_modify,hg,D2,a6T,Go.Sort.onCells];congr 2;exact b9j _ _ (by simp only[b0M,a1k,a2L])
  rw[a6S]
  ·exact hm
  ·exact(Z8.1 hm).1
 ·rw[hw];unfold Go.Proofs.sortWorldK Go.Sort.grow
  have hm:(Go.Sort.putRowK a2n 8 (Go.Sort.ahead w n) g 0 (a5w l)).heap[b]?=w.heap[b]?:=by
   unfold Go.Sort.putRowK Go.Sort.putRow Go.Sort.mapBlock;simp only[Go.Sort.ahead,Array.getElem?_modify];rw[j6 (Ne.symm hne)]
  rw[a6S]
  ·exact hm
  ·rw[Go.Sort.size_putRowK];exact hb
 ·rw[hw];unfold Go.Proofs.sortWorldK Go.Sort.grow;have:(Go.Sort.putRowK a2n 8 (Go.Sort.ahead w n) g 0 (a5w l)).heap.size=w.heap.size:=Go.Sort.size_putRowK ..;simp only[Array.size_append];unfold a5w at this;omega
 ·rw[hw];rfl
 ·rw[hw];rfl
 ·rw[hw];rfl
set_option maxRecDepth 100000
set_option maxHeartbeats 8000000
def c5m(w:World)(l:List b9)(v:Value):Prop:=∃a c,v=.slice a l.length c∧(l=[]∨∃b o,a=some ⟨b,o,none⟩∧b<w.heap.size∧∀j,j<l.length*8→w.cell? ⟨b,o+j,none⟩=(l.flatMap a2n)[j]?)
def c4l(l:List b9)(w:World)(e:Ending)(w':World):Prop:=∃g cap,e=.returned (.agg #[.slice (some ⟨g,0,none⟩) l.length cap])∧cap=l.length∧w.heap.size≤g∧w'.heap[g]?=some (.cells ((A0 l).flatMap a2n).toArray 38 (0,0))∧Below w.heap.size w w'
theorem d1K(n:Nat)(hn:n*72≤140737488355328):∃cur:Array Value,cur.size=n*8∧∀w,(Instr.makeSlice 27 (.int .i64 n) (.int .i64 n)).run Tryz.prog w=.ok (.slice (some ⟨w.heap.size,0,none⟩) n n) (w.alloc (.cells cur 38)):=by
 obtain⟨i,z,hi,hz,hs,hby⟩:∃i z,Tryz.prog.info? 38=some i∧i.zero=some z∧i.size=8∧i.bytes=72:=by
  have h:(Tryz.prog.info? 38).map (fun i=>(i.zero.isSome,i.size,i.bytes))=some (true,8,72):=by kernel_rfl
  cases hi:Tryz.prog.info? 38 with
  |none=>rw[hi]at h;cases h
  |some i=>
   rw[hi]at h;simp only[a6T,Y9,a5l]at h;cases hz:i.zero with
   |none=>rw[hz]at h;cases h.1
   |some z=>exact⟨i,z,rfl,hz,h.2.1,h.2.2⟩
 refine⟨madeCells z.cells (n*i.size),by simp[madeCells,hs],fun w=>?_⟩;have:=run_make (P:=Tryz.prog) w 27 38 i z (by kernel_rfl) hi hz .i64 .i64 n n (by omega) (Int.le_refl _) (by rw[hby];omega) (by omega);simpa using this
theorem c9o(l:List b9)(a:Option Addr)(c g ty:Nat)(W:World)(cur:Array Value)(hg:W.heap[g]?=some (.cells cur 38 (0,0)))(hc:cur.size=l.length*8)(hh:c5m W l (.slice a l.length c)):
 ∃W2,(Builtin.copy_ #[27,27] ty #[.slice (some ⟨g,0,none⟩) l.length l.length,.slice a l.length c]).run Tryz.prog W=.ok (goInt l.length) W2∧W2.heap[g]?=some (.cells (l.flatMap a2n).toArray 38 (0,0))∧(∀b,b≠g→W2.heap[b]?=W.heap[b]?)∧W2.heap.size=W.heap.size∧W2.os=W.os∧W2.tape=W.tape∧W2.output=W.output:=by
 obtain⟨a',c',he,hh⟩:=hh;obtain⟨rfl,_,rfl⟩:a=a'∧True∧c=c':=by simpa using he
 rcases hh with rfl|⟨b,o,rfl,hb,hcell⟩
 ·refine⟨W,?_,?_,fun _ _=>rfl,rfl,rfl,rfl,rfl⟩
  ·cases a with
   |none=>simp[Builtin.copy_,a9t underlying27,Builtin.lenOf,Builtin.firstCells,sizeOf38,goInt];rfl
   |some a=>simp[Builtin.copy_,a9t underlying27,Builtin.lenOf,Builtin.firstCells,sizeOf38,goInt];rfl
  ·rw[hg];have:cur= #[]:=Array.eq_empty_of_size_eq_zero (by simpa using hc)
   rw[this];rfl
 ·have hrun:=b3U (P:=Tryz.prog) (e:=38) (esz:=8) W 27 27 ty g 0 l.length l.length ⟨b,o,none⟩ l.length c cur 38 (l.flatMap a2n) (by kernel_rfl) sizeOf38 hg (by rw[a1k];simp)
   (fun j v hj=>by
    have hlt:j<l.length*8:=by rw[←a1k];exact(P3.1 hj).1
    rw[O8,hcell j hlt,hj]) (by rw[a1k,hc];omega) (fun v hv=>by
    obtain⟨r,_,hv⟩:=List.mem_flatMap.1 hv;simp only[a2n,u9,a8m,or_false]at hv;rcases hv with rfl|rfl|rfl|rfl|rfl|rfl|rfl|rfl<;>rfl)
  have hthis:cur.toList.take 0++l.flatMap a2n++cur.toList.drop (0+(l.flatMap a2n).length)=l.flatMap a2n:=by
   rw[List.drop_of_length_le (by rw[a1k];simp;omega)];simp
  rw[hthis,show Nat.min l.length l.length=l.length from Nat.min_self _]at hrun;refine⟨_,hrun,setRow_heap W g cur _ 38 _ hg,fun b hb=>a5O W g b _ hb,by simp[World.setRow],rfl,rfl,rfl⟩
theorem b5Y(l:List b9)(a:Option Addr)(c:Nat)(w:World)(hh:c5m w l (.slice a l.length c))(hl:l.length*72≤140737488355328):Calls Tryz.prog 104 #[.slice a l.length c] w (c4l l w):=by
 have h1:(0:Int)≤(l.length:Int):=Int.natCast_nonneg _;obtain⟨cur,hcur,hmk⟩:=d1K l.length hl;obtain⟨W1,HW⟩:∃W1,Hid (W1=(w.alloc (.cells #[.slice none 0 0] 70)).alloc (.cells cur 38)):=⟨_,P2 rfl⟩;have hs1:W1.heap.size=w.heap.size+2:=by rw[HW.out];simp
 have hb1:Below w.heap.size w W1:=by rw[HW.out];exact((Below.refl _ _).alloc (y6 _) _).alloc (by simp) _
 have hg1:W1.heap[w.heap.size+1]?=some (.cells cur 38 (0,0)):=by
  have:=(a2U (w.alloc (.cells #[.slice none 0 0] 70)) (.cells cur 38)).1;rw[show(w.alloc (.cells #[.slice none 0 0] 70)).heap.size=w.heap.size+1 by simp]at this;rw[HW.out];exact this
 have hg0:W1.heap[w.heap.size]?=some (.cells #[.slice none 0 0] 70 (0,0)):=by
  rw[HW.out,(a2U _ _).2 _ (by simp)];exact(a2U _ _).1
 have hh1:c5m W1 l (.slice a l.length c):=by
  obtain⟨a',c',he,hh⟩:=hh;refine⟨a',c',he,hh.imp id fun⟨b,o,e1,hb,hc⟩=>⟨b,o,e1,by omega,fun j hj=>?_⟩⟩;rw[←hc j hj];exact hb1.cell (p:=⟨b,o+j,none⟩) hb
 obtain⟨W2,hcp,k1,k2,k3,k4,k5,k6⟩:=c9o l a c (w.heap.size+1) 3 W1 cur hg1 hcur hh1;have hb2:Below w.heap.size w W2:=hb1.trans ⟨k4,k5,k6,by omega,fun b hb=>k2 b (by omega)⟩;have hk0:W2.heap[w.heap.size]?=some (.cells #[.slice none 0 0] 70 (0,0)):=by rw[k2 _ (by omega)];exact hg0
 rw[HW.out]at hcp;have HCP:=P2 hcp;have K1:=P2 k1;have K0:=P2 hk0;have K3:=P2 k3;clear hcur hs1 hb1 hg1 hg0 hh1 hcp k1 k2 k3 k4 k5 k6 hk0 HW
 go_enter func104,Tryz.ntmps104
 go_wp2
 rw[HCP.out];simp only[I9];rw[Oper.upon_value]
 go_wp2_with fail
 refine(d1S l (w.heap.size+1) l.length W2 K1.out (by omega)).mono ?_;rintro e W3 ⟨rfl,g1,g2,g3,g4,g5,g6⟩;have q0:W3.heap[w.heap.size]?=some (.cells #[.slice none 0 0] 70 (0,0)):=by rw[g2 _ (by have:=(Z8.1 K0.out).1;exact this) (by omega)];exact K0.out
 have hb3:Below w.heap.size w W3:=hb2.trans ⟨g4,g5,g6,g3,fun b hb=>g2 b (by have:=hb2.size;omega) (by omega)⟩;have c0:W3.cell? ⟨w.heap.size,0,none⟩=some (.slice none 0 0):=by rw[G4 q0];rfl
 have f0:W3.frozen? ⟨w.heap.size,0,none⟩=false:=U1 q0 0;have G1:=P2 g1;have Q0:=P2 q0;clear g1 g2 g3 g4 g5 g6 q0 hb2
 go_wp2
 have hcell:(W3.setCell ⟨w.heap.size,0,none⟩ (.slice (some ⟨w.heap.size+1,0,none⟩) l.length l.length)).cell? ⟨w.heap.size,0,none⟩=some (.slice (some ⟨w.heap.size+1,0,none⟩) l.length l.length):=by
  rw[G4 (C8 Q0.out)];rfl
 exact a5G (v:=.agg #[.slice (some ⟨w.heap.size+1,0,none⟩) l.length l.length]) (by simp[results,Tryz.results104,go_sem,hcell]) rfl
  ⟨w.heap.size+1,l.length,rfl,rfl,by omega,(a2q (by omega)).trans G1.out,hb3.setCell (p:=⟨w.heap.size,0,none⟩) (y6 _) _⟩
theorem c1y{ok:Nat→Prop}{w:World}:∀ {l:List b9}{xs:List Value},l5 ok w (l.flatMap b9.c) xs→xs=l.flatMap a2n
 |[],[],_=>rfl
 |[],_::_,h=>by simp[l5]at h
 |r::l,xs,h=>by
  match xs,h with
  |a1::a2::a3::a4::a5::a6::a7::a8::xs,h=>
   simp only[U0,b9.c,a1l,a2B,l5,Rep]at h;obtain⟨h1,h2,h3,h4,h5,h6,h7,h8,h9⟩:=h;rw[h1.1,h2.1,h3.1,h4.1,h5.1,h6.1,h7.1,h8.1,c1y h9];rfl
theorem b2V{ok:Nat→Prop}{w:World}:∀(l:List b9),l5 ok w (l.flatMap b9.c) (l.flatMap a2n)
 |[]=>trivial
 |r::l=>by
  simp only[U0,b9.c,a2n,a1l,a2B,l5,Rep,a3T,a0t,U2];exact b2V l
theorem c2f{ok:Nat→Prop}{w:World}{l:List b9}{v:Value}(hok:∀b,ok b→b<w.heap.size)(h:Rep ok w (lD 8 l b9.c) v):∃a c,v=.slice a l.length c∧c5m w l v:=by
 simp only[lD,Rep]at h;obtain⟨a,c,rfl,hnc,_,_,_,h⟩:=h;refine⟨a,c,rfl,a,c,rfl,?_⟩;rcases h with h|⟨b,o,xs,rfl,hb,hr,hc⟩
 ·exact .inl (a5Q (by omega))
 ·exact .inr ⟨b,o,rfl,hok b hb,fun j hj=>by rw[hc j hj,c1y hr]⟩
def D8(l:List b9):Option I4:=gd (l.length*72≤140737488355328) (some ⟨A0 l⟩)
theorem a3t(l:List b9)(r:I4)(hm:D8 l=some r):p0 Tryz.prog 104 [lD 8 l b9.c] (fun x=>x=.agg (I4.c r)):=by
 obtain⟨hg,hm⟩:=j0 hm;cases hm;intro ok w vs hr hok _
 match vs,hr with
 |[],hr=>simp[l5]at hr
 |_::_::_,hr=>simp[l5]at hr
 |[v],hr=>
  simp only[l5,and_true]at hr;obtain⟨a,c,rfl,hh⟩:=c2f hok hr;refine(b5Y l a c w hh hg).mono fun e w' ⟨g,cap,he,hcap,hge,hcells,hb⟩=>⟨_,_,he,rfl,?_,hb⟩
  have hle:l.length≤cap:=Nat.le_of_eq hcap.symm;simp only[Rep,I4.c,lD];refine⟨_,rfl,⟨?_,trivial⟩,rfl⟩;simp only[Rep];refine⟨_,cap,by rw[a2L],by rw[a2L];exact hle,by rw[a2L];omega,?_,?_,.inr ⟨g,0,(A0 l).flatMap a2n,rfl,.inr ⟨hge,(Z8.1 hcells).1⟩,b2V _,fun j hj=>?_⟩⟩
  ·exact a5I (c:=b9.c) (z:=8) (fun _=>rfl) _
  ·exact M3 fun d hd=>by
    obtain⟨r,_,hd⟩:=List.mem_flatMap.1 hd;simp only[b9.c,u9,a8m,or_false]at hd;rcases hd with rfl|rfl|rfl|rfl|rfl|rfl|rfl|rfl<;>rfl
  ·rw[a0k,G4 hcells];simp
set_option maxRecDepth 100000
set_option maxHeartbeats 8000000
theorem c6r(l:List b9):B4 (l.flatMap b9.c)=true:=M3 fun d hd=>by
 obtain⟨r,_,hd⟩:=List.mem_flatMap.1 hd;simp only[b9.c,u9,a8m,or_false]at hd;rcases hd with rfl|rfl|rfl|rfl|rfl|rfl|rfl|rfl<;>rfl
theorem b4i(l:List b9)(r:I4)(hm:D8 l=some r):b8m Tryz.prog 104 [lD 8 l b9.c] [(8,r.Records.length,r.Records.flatMap b9.c,38)] [.row 0 8]:=by
 obtain⟨hg,hm⟩:=j0 hm;cases hm;refine⟨rfl,?_⟩;intro ok w vs hr hok _
 match vs,hr with
 |[],hr=>simp[l5]at hr
 |_::_::_,hr=>simp[l5]at hr
 |[v],hr=>
  simp only[l5,and_true]at hr;obtain⟨a,c,rfl,hh⟩:=c2f hok hr;refine(b5Y l a c w hh hg).mono fun e w' ⟨g,cap,he,hcap,hge,hcells,hb⟩=>⟨[.slice (some ⟨g,0,none⟩) l.length cap],[.slice (some ⟨g,0,none⟩) l.length cap],he,?_,?_,?_,?_,hb⟩
  ·intro b hb;simp[r6]at hb;subst hb;exact⟨hge,(Z8.1 hcells).1⟩
  ·simp[r6]
  ·refine⟨⟨(A0 l).flatMap a2n,?_,b2V _,c6r _,a5I (c:=b9.c) (z:=8) (fun _=>rfl) _⟩,trivial⟩;refine⟨by rw[a1k],.inr ⟨g,cap,_,by rw[a2L],L0 _,hcells,by rw[a2L];omega,by unfold maxLen;omega,by simp only[b0M,a1k,a2L,hcap],?_⟩⟩;rw[a5m (by simp only[a1k];omega)]
  ·simp[U5]
end Go.Proofs.YtggdlgclohnbaaaGreatDoor
