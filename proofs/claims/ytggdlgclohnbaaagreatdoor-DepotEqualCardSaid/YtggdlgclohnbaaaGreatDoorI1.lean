/- Walks through functions that are not lifted by the program. -/
import Derived.Test.YtggdlgclohnbaaaGreatDoorL1
import Derived.Lib.IndexLaws
import Derived.Defers
import Derived.Recover
import Derived.StillTailTactics
import Derived.Deep.QuietTactic
import Derived.Shelf.SlicesQ.Reverse
set_option linter.unusedVariables false
set_option linter.unusedSimpArgs false
namespace Go.Proofs.YtggdlgclohnbaaaGreatDoor
open Go Go.RowKit Go.Sx Go.Lib
set_option maxRecDepth 100000
set_option maxHeartbeats 8000000
def a7d (s:ByteArray):ByteArray×ByteArray×Bool:=
 if 0≤Lib.indexByte s.data.toList 32 then(s.extract 0 (Lib.indexByte s.data.toList 32).toNat,s.extract ((Lib.indexByte s.data.toList 32).toNat+1) s.size,true)else(s,⟨#[]⟩,false)
theorem c8Y (s:ByteArray) (h:s.size≤281474976710656):a5c s ⟨#[32]⟩=some (a7d s):=by
 have hsz:(⟨#[32]⟩:ByteArray).size=1:=rfl;have hhd:(⟨#[32]⟩:ByteArray).data.toList.headD 0=32:=rfl;unfold a5c O4 L7 a7d;simp only [hsz,hhd,gd,C7,j3];by_cases h0:0≤Lib.indexByte s.data.toList 32
 · obtain⟨o,ho⟩:∃o:Nat,Lib.indexByte s.data.toList 32=(o:Int):=⟨_,(a9E h0).symm⟩
   have hlt:o<s.size:=by
    have:=(Lib.indexByte_some ho).1;have:=(L6.1 this).1;simpa using this
   have hw:W ((o:Int)+((1:Nat):Int))=((o+1:Nat):Int):=by unfold W;rw [b7W (by omega)];rfl
   rw [ho,hw];have h1:(0:Int)≤(o:Int)∧(o:Int)≤(s.size:Int):=by omega
   have h2:(0:Int)≤((o+1:Nat):Int)∧((o+1:Nat):Int)≤(s.size:Int):=by omega
   rw [j2 h1,j2 h2];simp
 · simp [h0]
theorem b0V (s:ByteArray):(a7d s).1.size≤s.size∧(a7d s).2.1.size≤s.size:=by
 unfold a7d;split
 · simp only [ByteArray.size_extract];omega
 · exact⟨u3 _,I2 _⟩
theorem c8C (s:ByteArray) (h:s.size≤281474976710656) (w:World) (hgi:GIW Tryz.prog w):Calls Tryz.prog 157 #[.string s, .string ⟨#[32]⟩] w fun e w'=>e= .returned (.tuple #[.string (a7d s).1, .string (a7d s).2.1, .bool (a7d s).2.2])∧Below w.heap.size w w':=by
 refine((b5t s ⟨#[32]⟩ _ (c8Y s h)).contract (w:=w) (vs:= [.string s, .string ⟨#[32]⟩]) (by simp [j6,Rep,a2B]) hgi).mono fun e w' ⟨v,he,hr,hb⟩=>⟨?_,hb⟩
 simp only [Rep]at hr;obtain⟨a,rfl,hr⟩:=hr;obtain⟨a⟩:=a
 match a,hr with
 | [x,y,z],hr=>
  simp only [j6,Rep]at hr;rw [he,hr.1.1,hr.2.1.1,hr.2.2.1.1]
 | [],hr=>simp [j6]at hr
 | [_],hr=>simp [j6]at hr
 | [_,_],hr=>simp [j6]at hr
 |_::_::_::_::_,hr=>simp [j6]at hr
theorem c8Q:a7Q Tryz.prog "strconv.ErrSyntax" 1:=⟨by kernel_rfl,by kernel_rfl⟩
theorem c9F:a7Q Tryz.prog "strconv.ErrRange" 2:=⟨by kernel_rfl,by kernel_rfl⟩
theorem c2C (s:ByteArray) (hs:s.size≤281474976710656) (v:Int) (h:Lib.atoiAll s.data.toList= .ok v) (w:World):Calls Tryz.prog 158 #[.string s] w fun e w'=>e= .returned (.tuple #[.int .i64 v, .nilIface])∧Below w.heap.size w w':=
 (Go.Proofs.Any.strconv_Atoi_ok b3l s (by omega) v h w).mono fun e w' ⟨he,hw⟩=>⟨he,by
  rcases hw with rfl|⟨t,rfl⟩
  · exact Below.refl _ _
  · exact b1X w _ t⟩
def d0b (w:World) (e:Ending) (w':World):Prop:=∃v t p,e= .returned (.tuple #[.int .i64 v, .iface t (.pointer (some p))])∧Below w.heap.size w w'
theorem c2H (s:ByteArray) (hs:s.size≤281474976710656) (h:∀v,Lib.atoiAll s.data.toList≠ .ok v) (w:World) (hgi:GIW Tryz.prog w):Calls Tryz.prog 158 #[.string s] w (d0b w):=by
 cases ha:Lib.atoiAll s.data.toList with
 |ok v=>exact absurd ha (h v)
 |range=>
  obtain⟨tp,p,hc⟩:=hgi.errs (.inr c9F);exact(Go.Proofs.Any.strconv_Atoi_range b3l s hs ha _ w hc (.inr ⟨tp,p,rfl⟩)).mono fun e w' ⟨N,he,_,_,hb⟩=>⟨_,_,_,he,hb⟩
 |_=>
  obtain⟨tp,p,hc⟩:=hgi.errs (.inl c8Q);exact(Go.Proofs.Any.strconv_Atoi_syntax b3l s hs ha _ w hc (.inr ⟨tp,p,rfl⟩)).mono fun e w' ⟨N,he,_,_,hb⟩=>⟨_,_,_,he,hb⟩
def b5o (s:ByteArray):Option (Int×ByteArray):=match(a7d s).2.2,Lib.atoiAll (a7d s).1.data.toList with
 |true, .ok v=>some (v,(a7d s).2.1)
 |_,_=>none
def c6Z:List PanicEntry:= [{ v:= .iface 182 (.agg #[]),recovered:=false}]
def d0A (w:World) (e:Ending) (w':World):Prop:=e= .panicked c6Z∧Below w.heap.size w w'
theorem b9F (t:TypeId) (q:Addr) (w:World):(binOp .neq 193 (.iface t (.pointer (some q))) .nilIface).run Tryz.prog w= .ok (.bool true) w:=by
 have h:∀d:Nat,(Op.equalIn (d+1) 193 (.iface t (.pointer (some q))) .nilIface).run Tryz.prog w= .ok false w:=fun d=>by
  simp [Op.equalIn,run_underlying Tryz.underlying193]
 simp only [binOp];simp [Op.equal,Op.maxDepth,h 9999]
theorem c3x (s:ByteArray) (hs:s.size≤281474976710656) (v:Int) (rest:ByteArray) (h:b5o s=some (v,rest)) (w:World) (hgi:GIW Tryz.prog w):
 Calls Tryz.prog 130 #[.string s] w fun e w'=>e= .returned (.tuple #[.int .i64 v, .string rest])∧Below w.heap.size w w':=by
 unfold b5o at h;split at h
 · rename_i h1 h2;cases h;have hsz:=b0V s;have hc:=c8C s hs w hgi;rw [h1]at hc;have H2:=Lib.hid h2;have H1:=Lib.hid h1;clear h1 h2
   go_enter Tryz.func130,Tryz.ntmps130
   go_wp2_with fail
   refine hc.mono ?_;rintro e w1 ⟨rfl,hb1⟩;clear hc
   go_wp2_with fail
   refine(c2C _ (by omega) _ H2.out w1).mono ?_;rintro e w2 ⟨rfl,hb2⟩
   go_wp2
   go_ret2
   exact⟨rfl,hb1.trans (hb2.mono (by have:=hb1.size;omega))⟩
 · cases h
theorem c3U (s:ByteArray) (hs:s.size≤281474976710656) (h:b5o s=none) (w:World) (hgi:GIW Tryz.prog w):Calls Tryz.prog 130 #[.string s] w (d0A w):=by
 have hsz:=b0V s;have hc:=c8C s hs w hgi;have hbb:∀w1 w2:World,Below w.heap.size w w1→Below w1.heap.size w1 w2→Below w.heap.size w w2:=fun w1 w2 h1 h2=>h1.trans (h2.mono (by have:=h1.size;omega))
 by_cases hv:∃v,Lib.atoiAll (a7d s).1.data.toList= .ok v
 · obtain⟨v,h2⟩:=hv
   have h1:(a7d s).2.2=false:=by
    cases h1:(a7d s).2.2 with
    |false=>rfl
    |true=>unfold b5o at h;rw [h1,h2]at h;cases h
   rw [h1]at hc;have H2:=Lib.hid h2;clear h1 h2 h
   go_enter Tryz.func130,Tryz.ntmps130
   go_wp2_with fail
   refine hc.mono ?_;rintro e w1 ⟨rfl,hb1⟩;clear hc
   go_wp2_with fail
   refine(c2C _ (by omega) _ H2.out w1).mono ?_;rintro e w2 ⟨rfl,hb2⟩
   go_wp2
   simp [Instr.panic,Result.andThen,Oper.upon,Exit.then,bodyPost];exact⟨rfl,hbb _ _ hb1 hb2⟩
 · have hv':∀v,Lib.atoiAll (a7d s).1.data.toList≠ .ok v:=fun v e=>hv ⟨v,e⟩
   have HV:=Lib.hid hv';clear hv hv';cases h1:(a7d s).2.2 with
   |false=>
    rw [h1]at hc;clear h1 h
    go_enter Tryz.func130,Tryz.ntmps130
    go_wp2_with fail
    refine hc.mono ?_;rintro e w1 ⟨rfl,hb1⟩;clear hc;have hg1:=hgi.below hb1
    go_wp2_with fail
    refine(c2H _ (by omega) HV.out w1 hg1).mono ?_;rintro e w2 ⟨v,t,q,rfl,hb2⟩
    go_wp2
    simp [Instr.panic,Result.andThen,Oper.upon,Exit.then,bodyPost];exact⟨rfl,hbb _ _ hb1 hb2⟩
   |true=>
    rw [h1]at hc;clear h1 h
    go_enter Tryz.func130,Tryz.ntmps130
    go_wp2_with fail
    refine hc.mono ?_;rintro e w1 ⟨rfl,hb1⟩;clear hc;have hg1:=hgi.below hb1
    go_wp2_with fail
    refine(c2H _ (by omega) HV.out w1 hg1).mono ?_;rintro e w2 ⟨v,t,q,rfl,hb2⟩;have hne:∀w,(binOp .neq 193 (.iface t (.pointer (some q))) .nilIface).run Tryz.prog w= .ok (.bool true) w:=b9F t q
    go_wp2
    simp [Instr.panic,Result.andThen,Oper.upon,Exit.then,bodyPost];exact⟨rfl,hbb _ _ hb1 hb2⟩
set_option maxRecDepth 100000
set_option maxHeartbeats 8000000
theorem c0N (p q:Addr) (w:World):CallsD Tryz.prog 129 #[.pointer (some p), .pointer (some q)] .returning w fun e u' w'=>e= .returned (.tuple #[])∧u'= .returning∧w'=w:=by
 refine callsD_of_wpS Tryz.func129 rfl fun c₀ cs hu=> ?_
 apply wpS_seq;apply wpS_region;simp [wpOpsS,go_sem,recoverD,hu,Tryz.ntmps129,Exit.thenS];refine wpS_of_wp ?_
 go_wp2
 cases c₀
 simp_all [bodyPostS,results,Tryz.results129]
theorem B2 {w:World} {a j:Nat} {v:Value} {cs:Array Value} {T:TypeId} {fr:Nat×Nat} (h:w.heap[a]?=some (.cells cs T fr)):(w.setCell ⟨a,j,none⟩ v).heap[a]?=some (.cells (cs.setIfInBounds j v) T fr):=by
 simp [World.setCell,Array.getElem?_modify,h]
theorem a1g {w:World} {a b j:Nat} {v:Value} (h:a≠b):(w.setCell ⟨a,j,none⟩ v).heap[b]?=w.heap[b]?:=by
 simp [World.setCell,Array.getElem?_modify,h]
theorem a1K {w:World} {p:Addr} {v:Value}:(w.setCell p v).heap.size=w.heap.size:=by simp [World.setCell]
theorem c9I (w:World):(Instr.typeAssert (.iface 182 (.agg #[])) 20 182 true).run Tryz.prog w= .ok (.tuple #[.agg #[], .bool true]) w:=by kernel_rfl
theorem c4j (n a b:Nat) (w:World) (x0:Value) (cs0:Array Value) (hna:n≤a) (hnb:n≤b) (hab:a≠b) (ha:w.heap[a]?=some (.cells cs0 38 (0,0))) (hs:cs0.size=8) (hb:w.heap[b]?=some (.cells #[x0] 4 (0,0))):
 CallsD Tryz.prog 129 #[.pointer (some ⟨a,0,none⟩), .pointer (some ⟨b,0,none⟩)] (.panicking c6Z) w fun e u' w'=>e= .returned (.tuple #[])∧u'= .panicking [{ v:= .iface 182 (.agg #[]),recovered:=true}]∧
  w'.heap[a]?=some (.cells #[.int .i64 0, .int .i64 0, .int .i64 0, .int .i64 0, .int .i64 0, .int .i64 0, .int .i64 0, .string ⟨#[]⟩] 38 (0,0))∧w'.heap[b]?=some (.cells #[.bool false] 4 (0,0))∧Below n w w':=by
 have hta:=c9I;have hlta:a<w.heap.size:=(U8.1 ha).1;have hltb:b<w.heap.size:=(U8.1 hb).1
 match cs0,hs with
 |⟨[x1,x2,x3,x4,x5,x6,x7,x8]⟩,_=>
 have c0:w.cell? ⟨a,0,none⟩=some x1:=by rw [Lib.cell_of_heap ha];rfl
 have f0:w.frozen? ⟨a,0,none⟩=false:=Lib.frozen_of_heap ha 0;have c1:w.cell? ⟨a,1,none⟩=some x2:=by rw [Lib.cell_of_heap ha];rfl
 have f1:w.frozen? ⟨a,1,none⟩=false:=Lib.frozen_of_heap ha 1;have c2:w.cell? ⟨a,2,none⟩=some x3:=by rw [Lib.cell_of_heap ha];rfl
 have f2:w.frozen? ⟨a,2,none⟩=false:=Lib.frozen_of_heap ha 2;have c3:w.cell? ⟨a,3,none⟩=some x4:=by rw [Lib.cell_of_heap ha];rfl
 have f3:w.frozen? ⟨a,3,none⟩=false:=Lib.frozen_of_heap ha 3;have c4:w.cell? ⟨a,4,none⟩=some x5:=by rw [Lib.cell_of_heap ha];rfl
 have f4:w.frozen? ⟨a,4,none⟩=false:=Lib.frozen_of_heap ha 4;have c5:w.cell? ⟨a,5,none⟩=some x6:=by rw [Lib.cell_of_heap ha];rfl
 have f5:w.frozen? ⟨a,5,none⟩=false:=Lib.frozen_of_heap ha 5;have c6:w.cell? ⟨a,6,none⟩=some x7:=by rw [Lib.cell_of_heap ha];rfl
 have f6:w.frozen? ⟨a,6,none⟩=false:=Lib.frozen_of_heap ha 6;have c7:w.cell? ⟨a,7,none⟩=some x8:=by rw [Lib.cell_of_heap ha];rfl
 have f7:w.frozen? ⟨a,7,none⟩=false:=Lib.frozen_of_heap ha 7;have cb:w.cell? ⟨b,0,none⟩=some x0:=by rw [Lib.cell_of_heap hb];rfl
 have fb:w.frozen? ⟨b,0,none⟩=false:=Lib.frozen_of_heap hb 0;have hba:b≠a:=fun e=>hab e.symm
 have HA:=Lib.hid ha;have HB:=Lib.hid hb;clear ha hb;refine callsD_of_wpS Tryz.func129 rfl fun c₀ cs hu=> ?_
 apply wpS_seq;apply wpS_region;simp [wpOpsS,go_sem,recoverD,hu,Tryz.ntmps129,Exit.thenS,c6Z];refine wpS_of_wp ?_
 go_wp2
 simp only [bodyPostS,X6];refine⟨_,rfl, .tuple #[],by simp [results,Tryz.results129],rfl,rfl, ?_, ?_, ?_⟩
 · rw [Lib.alloc_old _ _ _ (by simpa [a1K]using hlta),a1g hba]
   simpa using B2 (j:=7) (v:= .string ⟨#[]⟩) (B2 (j:=6) (v:= .int .i64 0) (B2 (j:=5) (v:= .int .i64 0) (B2 (j:=4) (v:= .int .i64 0) (B2 (j:=3) (v:= .int .i64 0) (B2 (j:=2) (v:= .int .i64 0) (B2 (j:=1) (v:= .int .i64 0) (B2 (j:=0) (v:= .int .i64 0) HA.out)))))))
 · rw [Lib.alloc_old _ _ _ (by simpa [a1K]using hltb)]
   refine(B2 (j:=0) (v:= .bool false) (cs:= #[x0]) (T:=4) (fr:=(0,0)) ?_).trans rfl;simp only [a1g hab];exact HB.out
 · refine Below.alloc ?_ (by simp only [a1K];omega) _;exact(((((((((Below.refl n w).setCell hna _).setCell hna _).setCell hna _).setCell hna _).setCell hna _).setCell hna _).setCell hna _).setCell hna _).setCell hnb _
set_option maxRecDepth 100000
set_option maxHeartbeats 8000000
def a2e (r:b9):List Int:= [r.At.Depot,r.At.No,r.Kind,r.Day,r.Known,r.Of.Depot,r.Of.No]
def E4 (r:b9):ByteArray:=⟨(a1F (a2e r)).toArray⟩++r.Text
def K6 (r:b9):Option ByteArray:=gd ((∀n∈a2e r,-9223372036854775808≤n∧n≤9223372036854775807)∧r.Text.size≤281474976710656) (some (E4 r))
def a2a (r:b9):Array Value:= #[.int .i64 r.At.Depot, .int .i64 r.At.No, .int .i64 r.Kind, .int .i64 r.Day, .int .i64 r.Known, .int .i64 r.Of.Depot, .int .i64 r.Of.No, .string r.Text]
theorem b8Q (r:b9) (x:ByteArray) (hm:K6 r=some x) (w:World) (hgi:GIW Tryz.prog w):Calls Tryz.prog 92 #[.agg (a2a r)] w fun e w'=>e= .returned (.string x)∧Below w.heap.size w w':=by
 obtain⟨hg,hm⟩:=j4 hm;cases hm;exact c0u _ _ _ _ _ _ _ r.Text w hg.1 hg.2 hgi
theorem c7f {ok:Nat→Prop} {w:World} {r:b9} {y:Value} (h:Rep ok w (.agg (b9.c r)) y):y= .agg (a2a r):=by
 simp only [Rep]at h;obtain⟨a,rfl,h,_⟩:=h;obtain⟨a⟩:=a
 match a,h with
 | [a1,a2,a3,a4,a5,a6,a7,a8],h=>
  simp only [b9.c,j6,Rep]at h;obtain⟨h1,h2,h3,h4,h5,h6,h7,h8,_⟩:=h;rw [h1.1,h2.1,h3.1,h4.1,h5.1,h6.1,h7.1,h8.1];rfl
theorem c2c {ok:Nat→Prop} {w:World} (r:b9):Rep ok w (.agg (b9.c r)) (.agg (a2a r)):=by
 simp only [Rep];exact⟨_,rfl,by simp [b9.c,a2a,j6,Rep,a2B],rfl⟩
theorem d0N {ok:Nat→Prop} {w:World} {r:b9} {vs:List Value} (h:j6 ok w [.agg (b9.c r)] vs):vs= [.agg (a2a r)]:=by
 match vs,h with
 | [v],h=>simp only [j6]at h;rw [c7f h.1]
 | [],h=>simp [j6]at h
 |_::_::_,h=>simp [j6]at h
theorem a7h (r_:b9) (r:ByteArray) (hm:K6 r_=some r):s9 Tryz.prog 92 [.agg (b9.c r_)] (fun x=>x= .v (.string r)):=by
 intro ok w vs hr _ hgi;rw [d0N hr];exact(b8Q r_ r hm w hgi).mono fun e w' ⟨he,hb⟩=>⟨_,_,he,rfl,by simp [Rep,a2B],hb⟩
theorem c1n (r:b9) (b:Bool) (hm:s8 r=some b) (w:World) (hgi:GIW Tryz.prog w):Calls Tryz.prog 91 #[.agg (a2a r)] w fun e w'=>e= .returned (.bool b)∧Below w.heap.size w w':=by
 refine((B1 r _ hm).contract (w:=w) (vs:= [.agg (a2a r)]) ⟨c2c r,trivial⟩ hgi).mono fun e w' ⟨v,he,hr,hb⟩=>⟨?_,hb⟩
 simp only [Rep]at hr;rw [he,hr.1]
def a7A:Nat→ByteArray→Option (List Int×ByteArray)
 |0,s=>some ([],s)
 |k+1,s=>match a7A k s with
  |some (l,t)=>match b5o t with
   |some (v,r)=>some (l++ [v],r)
   |none=>none
  |none=>none
theorem a7o:∀ {k:Nat} {s t:ByteArray} {l:List Int},a7A k s=some (l,t)→l.length=k∧t.size≤s.size
 |0,s,t,l,h=>by simp only [a7A,U3,a4p]at h;obtain⟨rfl,rfl⟩:=h;exact⟨rfl,u3 _⟩
 |k+1,s,t,l,h=>by
  simp only [a7A]at h;split at h
  · rename_i l0 t0 h0;split at h
    · rename_i v r h1;cases h;obtain⟨h2,h3⟩:=a7o h0;refine⟨by simp [h2], ?_⟩;unfold b5o at h1;split at h1
      · cases h1;exact u2 (b0V t0).2 h3
      · cases h1
    · cases h
  · cases h
theorem b5T:∀ {k m:Nat} {s:ByteArray},a7A k s=none→k≤m→a7A m s=none
 |k,0,s,h,hm=>by
  have e:k=0:=Nat.le_zero.1 hm;rw [e]at h;exact h
 |k,m+1,s,h,hm=>by
  by_cases e:k=m+1
  · rw [←e];exact h
  · simp only [a7A,b5T h (show k≤m by omega)]
def b4I (l:List Int) (t:ByteArray):b9:=⟨⟨l.getD 0 0,l.getD 1 0⟩,l.getD 2 0,l.getD 3 0,l.getD 4 0,⟨l.getD 5 0,l.getD 6 0⟩,t⟩
def a4h:b9:=⟨⟨0,0⟩,0,0,0,⟨0,0⟩,⟨#[]⟩⟩
def L1 (s:ByteArray):Option (b9×Bool):=gd (s.size≤281474976710656)<|
 match a7A 7 s with
 |none=>some (a4h,false)
 |some (l,t)=>Option.bind (s8 (b4I l t)) fun b=>
  if b=true then Option.bind (K6 (b4I l t)) fun x=>if(x.toList==s.toList)=true then some (b4I l t,true)else some (a4h,false)
  else some (a4h,false)
def b7j (n:Nat) (w:World) (res:b9×Bool) (e:Ending) (w':World):Prop:=e= .returned (.tuple #[.agg (a2a res.1), .bool res.2])∧Below n w w'
def dfr (n:Nat):Deferred:= { target:= .fn (.func 129) #[.pointer (some ⟨n,0,none⟩), .pointer (some ⟨n+1,0,none⟩)],args:= #[]}
structure c0O (n:Nat) (t:Array Value):Prop where
 t2:t[2]?=some (.pointer (some ⟨n,0,none⟩))
 t3:t[3]?=some (.pointer (some ⟨n+1,0,none⟩))
theorem b8g {n:Nat} {w':World} {t:Array Value} {r:b9} {b:Bool} (ht:c0O n t) (h1:w'.heap[n]?=some (.cells (a2a r) 38 (0,0))) (h2:w'.heap[n+1]?=some (.cells #[.bool b] 4 (0,0))):
 (results Tryz.f70 t).run Tryz.prog w'= .ok (.tuple #[.agg (a2a r), .bool b]) w':=by
 have c0:w'.cell? ⟨n,0,none⟩=some (.int .i64 r.At.Depot):=by rw [Lib.cell_of_heap h1];rfl
 have c1:w'.cell? ⟨n,1,none⟩=some (.int .i64 r.At.No):=by rw [Lib.cell_of_heap h1];rfl
 have c2:w'.cell? ⟨n,2,none⟩=some (.int .i64 r.Kind):=by rw [Lib.cell_of_heap h1];rfl
 have c3:w'.cell? ⟨n,3,none⟩=some (.int .i64 r.Day):=by rw [Lib.cell_of_heap h1];rfl
 have c4:w'.cell? ⟨n,4,none⟩=some (.int .i64 r.Known):=by rw [Lib.cell_of_heap h1];rfl
 have c5:w'.cell? ⟨n,5,none⟩=some (.int .i64 r.Of.Depot):=by rw [Lib.cell_of_heap h1];rfl
 have c6:w'.cell? ⟨n,6,none⟩=some (.int .i64 r.Of.No):=by rw [Lib.cell_of_heap h1];rfl
 have c7:w'.cell? ⟨n,7,none⟩=some (.string r.Text):=by rw [Lib.cell_of_heap h1];rfl
 have cb:w'.cell? ⟨n+1,0,none⟩=some (.bool b):=by rw [Lib.cell_of_heap h2];rfl
 simp [results,Tryz.results70,go_sem,ht.t2,ht.t3,c0,c1,c2,c3,c4,c5,c6,c7,cb,a2a]
theorem c3Z {n:Nat} {w w':World} {t:Array Value} {r:b9} {b:Bool} (ht:c0O n t) (h1:w'.heap[n]?=some (.cells (a2a r) 38 (0,0))) (h2:w'.heap[n+1]?=some (.cells #[.bool b] 4 (0,0))) (hb:Below n w w'):
 Leaves Tryz.prog Tryz.f70 t (b7j n w (r,b)) [dfr n] .returning w':=by
 refine leaves_cons (f:=129) (args:= #[.pointer (some ⟨n,0,none⟩), .pointer (some ⟨n+1,0,none⟩)]) (by simp) (by simp [go_sem]) ?_;refine(c0N ⟨n,0,none⟩ ⟨n+1,0,none⟩ _).mono ?_;rintro e u' w'' ⟨rfl,rfl,rfl⟩;simp only [settle,Leaves];exact⟨_,b8g ht h1 h2,rfl,hb⟩
theorem a9n {n:Nat} {w w':World} {t:Array Value} {cs0:Array Value} {x0:Value} (ht:c0O n t) (h1:w'.heap[n]?=some (.cells cs0 38 (0,0))) (hs:cs0.size=8) (h2:w'.heap[n+1]?=some (.cells #[x0] 4 (0,0))) (hb:Below n w w'):
 Leaves Tryz.prog Tryz.f70 t (b7j n w (a4h,false)) [dfr n] (.panicking c6Z) w':=by
 refine leaves_cons (f:=129) (args:= #[.pointer (some ⟨n,0,none⟩), .pointer (some ⟨n+1,0,none⟩)]) (by simp [c6Z]) (by simp [go_sem]) ?_;refine(c4j n n (n+1) w' x0 cs0 (u3 _) (by omega) (by omega) h1 hs h2).mono ?_;rintro e u' w'' ⟨rfl,rfl,g1,g2,g3⟩;have hset:settle (.panicking [{ v:= .iface 182 (.agg #[]),recovered:=true}])= .returning:=by simp [settle]
 simp only [hset,Leaves];exact⟨_,b8g (r:=a4h) ht g1 g2,rfl,hb.trans g3⟩
def c9A (n:Nat) (s:ByteArray) (w:World) (i rest:Value) (wr:World):Prop:=
 ∃(k:Nat) (l:List Int) (t:ByteArray),k≤7∧i= .int .i64 k∧rest= .string t∧a7A k s=some (l,t)∧wr.heap[n]?=some (.cells (a2a a4h) 38 (0,0))∧wr.heap[n+1]?=some (.cells #[.bool false] 4 (0,0))∧
  wr.heap[n+2]?=some (.cells ((l++List.replicate (7-k) 0).map (Value.int .i64)).toArray 144 (0,0))∧Below n w wr∧n+3≤wr.heap.size
def stR (w:World) (n:Nat) (r:b9):World:=((((((((w.setCell ⟨n,0,none⟩ (.int .i64 r.At.Depot)).setCell ⟨n,1,none⟩ (.int .i64 r.At.No)).setCell ⟨n,2,none⟩ (.int .i64 r.Kind)).setCell ⟨n,3,none⟩ (.int .i64 r.Day)).setCell ⟨n,4,none⟩ (.int .i64 r.Known)).setCell ⟨n,5,none⟩ (.int .i64 r.Of.Depot)).setCell ⟨n,6,none⟩ (.int .i64 r.Of.No)).setCell ⟨n,7,none⟩ (.string r.Text))
theorem c5r {w:World} {n:Nat} {r q:b9} (h:w.heap[n]?=some (.cells (a2a q) 38 (0,0))):(stR w n r).heap[n]?=some (.cells (a2a r) 38 (0,0)):=by
 have h8:=(B2 (j:=7) (v:= .string r.Text) (B2 (j:=6) (v:= .int .i64 r.Of.No) (B2 (j:=5) (v:= .int .i64 r.Of.Depot) (B2 (j:=4) (v:= .int .i64 r.Known) (B2 (j:=3) (v:= .int .i64 r.Day) (B2 (j:=2) (v:= .int .i64 r.Kind) (B2 (j:=1) (v:= .int .i64 r.At.No) (B2 (j:=0) (v:= .int .i64 r.At.Depot) h))))))));unfold stR;rw [h8];simp [a2a]
theorem c6G {w:World} {n b:Nat} {r:b9} (h:n≠b):(stR w n r).heap[b]?=w.heap[b]?:=by
 unfold stR;simp only [a1g h]
theorem c6N {w:World} {n:Nat} {r:b9}:(stR w n r).heap.size=w.heap.size:=by unfold stR;simp only [a1K]
theorem b5Y {w:World} {n:Nat} {r:b9}:Below n w (stR w n r):=(((((((((Below.refl n w).setCell (p:=⟨n,0,none⟩) (u3 _) _).setCell (p:=⟨n,1,none⟩) (u3 _) _).setCell (p:=⟨n,2,none⟩) (u3 _) _).setCell (p:=⟨n,3,none⟩) (u3 _) _).setCell (p:=⟨n,4,none⟩) (u3 _) _).setCell (p:=⟨n,5,none⟩) (u3 _) _).setCell (p:=⟨n,6,none⟩) (u3 _) _).setCell (p:=⟨n,7,none⟩) (u3 _) _)
theorem c3B {n:Nat} {s:ByteArray} {w wr w1:World} {k:Nat} {l:List Int} {t r:ByteArray} {v:Int} (hk:k<7) (hd:a7A k s=some (l,t)) (hnum:b5o t=some (v,r)) (h0:wr.heap[n]?=some (.cells (a2a a4h) 38 (0,0))) (h1:wr.heap[n+1]?=some (.cells #[.bool false] 4 (0,0)))
 (h2:wr.heap[n+2]?=some (.cells ((l++List.replicate (7-k) 0).map (Value.int .i64)).toArray 144 (0,0))) (hb:Below n w wr) (hsz:n+3≤wr.heap.size) (hb1:Below wr.heap.size wr w1):
 c9A n s w (.int .i64 ((k+1:Nat):Int)) (.string r) (w1.setCell ⟨n+2,k,none⟩ (.int .i64 v)):=by
 have hl:=(a7o hd).1;refine⟨k+1,l++ [v],r,by omega,rfl,rfl,by simp only [a7A,hd,hnum], ?_, ?_, ?_, ?_, ?_⟩
 · rw [a1g (by omega),hb1.block n (by omega)];exact h0
 · rw [a1g (by omega),hb1.block (n+1) (by omega)];exact h1
 · rw [B2 (cs:=((l++List.replicate (7-k) 0).map (Value.int .i64)).toArray) (T:=144) (fr:=(0,0)) (by rw [hb1.block (n+2) (by omega)];exact h2)];congr 2;apply I8;simp only [Array.toList_setIfInBounds];rw [show 7-k=(7-(k+1))+1 by omega,List.replicate_succ];simp [List.set_append,hl]
 · exact(hb.trans (hb1.mono (by omega))).setCell (p:=⟨n+2,k,none⟩) (by simp) _
 · rw [a1K];have:=hb1.size;omega
set_option maxRecDepth 100000
set_option maxHeartbeats 8000000
theorem c1p (s:ByteArray) (res:b9×Bool) (hm:L1 s=some res) (w:World) (hgi:GIW Tryz.prog w):Calls Tryz.prog 70 #[.string s] w (b7j w.heap.size w res):=by
 obtain⟨hs,hm⟩:=j4 hm;have HM:=Lib.hid hm;clear hm
 go_enter_defers Tryz.func70,Tryz.ntmps70
 go_wp2
 go_loopw [9,5] (fun i rest wr=>c9A w.heap.size s w i rest wr) (fun i _ _=>7-(intOf i).toNat)
 case atStart=>
  obtain⟨wa,hwa⟩:∃wa,wa=w.alloc (.cells (a2a a4h) 38):=⟨_,rfl⟩;have hsa:wa.heap.size=w.heap.size+1:=by rw [hwa];simp
  have h7:wa.heap[w.heap.size]?=some (.cells (a2a a4h) 38 (0,0)):=by rw [hwa];exact(MapKept.heap_alloc w _).1
  have hwb:Below w.heap.size w wa:=by rw [hwa];exact(Below.refl _ _).alloc (u3 _) _
  obtain⟨wb,hwb2⟩:∃wb,wb=wa.alloc (.cells #[.bool false] 4):=⟨_,rfl⟩;have hsb:wb.heap.size=w.heap.size+2:=by rw [hwb2];simp [hsa]
  have h8:wb.heap[w.heap.size+1]?=some (.cells #[.bool false] 4 (0,0)):=by rw [hwb2,←hsa];exact(MapKept.heap_alloc wa _).1
  have h9:wb.heap[w.heap.size]?=some (.cells (a2a a4h) 38 (0,0)):=by rw [hwb2,(MapKept.heap_alloc wa _).2 _ (by omega)];exact h7
  have hbb:Below w.heap.size w wb:=by rw [hwb2];exact hwb.alloc (by omega) _
  change c9A w.heap.size s w (.int .i64 0) (.string s) ((((w.alloc (.cells (a2a a4h) 38)).alloc (.cells #[.bool false] 4)).alloc (.cells ((([]:List Int)++List.replicate 7 0).map (Value.int .i64)).toArray 144)));rw [←hwa,←hwb2];refine⟨0, [],s,by omega,rfl,rfl,rfl, ?_, ?_, ?_,hbb.alloc (by omega) _,by simp [hsb]⟩
  · rw [(MapKept.heap_alloc wb _).2 _ (by omega)];exact h9
  · rw [(MapKept.heap_alloc wb _).2 _ (by omega)];exact h8
  · rw [←hsb];exact(MapKept.heap_alloc wb _).1
 case round=>
  obtain⟨k,l,t,hk,rfl,rfl,hd,h0,h1,h2,hb,hsz⟩:=hrel;have hts:=(a7o hd).2;have hll:=(a7o hd).1;have hgr:=GIW.below hgi hb;by_cases hlt:k<7
  · have hki:(k:Int)<7:=by omega
    cases hnum:b5o t with
    |none=>
     have hres:res=(a4h,false):=by
      have h7:a7A 7 s=none:=b5T (k:=k+1) (by simp only [a7A,hd,hnum]) (by omega);have:=HM.out;rw [h7]at this;exact(G4 this).symm
     clear hll;have HD:=Lib.hid hd;clear hd
     go_wp2_with fail
     refine(c3U t (by omega) hnum wr hgr).mono ?_;rintro e w1 ⟨rfl,hb1⟩;subst hres;refine a9n (cs0:=a2a a4h) (x0:= .bool false) ⟨rfl,rfl⟩ ?_ rfl ?_ (hb.trans (hb1.mono (by omega)))
     · rw [hb1.block _ (by omega)];exact h0
     · rw [hb1.block _ (by omega)];exact h1
    |some q=>
     obtain⟨v,r⟩:=q;have R:=fun w1 hb1=>c3B (w1:=w1) hlt hd hnum h0 h1 h2 hb hsz hb1
     have hc:∀w1,Below wr.heap.size wr w1→w1.cell? ⟨w.heap.size+1+1,k,none⟩=some (.int .i64 0):=fun w1 hb1=>by
      have h3:w1.heap[w.heap.size+1+1]?=_:=(hb1.block (w.heap.size+2) (by omega)).trans h2;rw [Lib.cell_of_heap h3];simp [hll,List.getElem?_append,List.getElem?_replicate,hlt];omega
     have hf:∀w1,Below wr.heap.size wr w1→w1.frozen? ⟨w.heap.size+1+1,k,none⟩=false:=fun w1 hb1=>by
      have h3:w1.heap[w.heap.size+1+1]?=_:=(hb1.block (w.heap.size+2) (by omega)).trans h2;exact Lib.frozen_of_heap h3 k
     have HC:=Lib.hid hc;have HF:=Lib.hid hf;have HR:=Lib.hid R;clear hc hf R hd hll h0 h1 h2
     go_wp2_with fail
     refine(c3x t (by omega) v r hnum wr hgr).mono ?_;rintro e w1 ⟨rfl,hb1⟩;have c1:=HC.out w1 hb1;have f1:=HF.out w1 hb1;have R1:=HR.out w1 hb1;clear hnum
     go_wp2
     go_roundw
     case rel=>exact R1
     case measure=>simp [intOf];omega
  · obtain rfl:k=7:=by omega
    have HM2:=HM.out;rw [hd]at HM2;simp only at HM2
    have h2':wr.heap[w.heap.size+1+1]?=some (.cells (l.map (Value.int .i64)).toArray 144 (0,0)):=by
     have:(l++List.replicate (7-7) 0)=l:=by simp
     rw [this]at h2;exact h2
    have hL:=hll
    match l,hL with
    | [a1,a2,a3,a4,a5,a6,a7],_=>
    have c0:wr.cell? ⟨w.heap.size+1+1,0,none⟩=some (.int .i64 a1):=by rw [Lib.cell_of_heap h2'];rfl
    have c1:wr.cell? ⟨w.heap.size+1+1,1,none⟩=some (.int .i64 a2):=by rw [Lib.cell_of_heap h2'];rfl
    have c2:wr.cell? ⟨w.heap.size+1+1,2,none⟩=some (.int .i64 a3):=by rw [Lib.cell_of_heap h2'];rfl
    have c3:wr.cell? ⟨w.heap.size+1+1,3,none⟩=some (.int .i64 a4):=by rw [Lib.cell_of_heap h2'];rfl
    have c4:wr.cell? ⟨w.heap.size+1+1,4,none⟩=some (.int .i64 a5):=by rw [Lib.cell_of_heap h2'];rfl
    have c5:wr.cell? ⟨w.heap.size+1+1,5,none⟩=some (.int .i64 a6):=by rw [Lib.cell_of_heap h2'];rfl
    have c6:wr.cell? ⟨w.heap.size+1+1,6,none⟩=some (.int .i64 a7):=by rw [Lib.cell_of_heap h2'];rfl
    have HD:=Lib.hid hd;have H0:=Lib.hid h0;have H1:=Lib.hid h1;have HM3:=Lib.hid HM2;clear hd hll h2 h2' HM2 HM;have d0:wr.cell? ⟨w.heap.size,0,none⟩=some (.int .i64 0):=by rw [Lib.cell_of_heap H0.out];rfl
    have f0:wr.frozen? ⟨w.heap.size,0,none⟩=false:=Lib.frozen_of_heap H0.out 0;have d1:wr.cell? ⟨w.heap.size,1,none⟩=some (.int .i64 0):=by rw [Lib.cell_of_heap H0.out];rfl
    have f1:wr.frozen? ⟨w.heap.size,1,none⟩=false:=Lib.frozen_of_heap H0.out 1;have d2:wr.cell? ⟨w.heap.size,2,none⟩=some (.int .i64 0):=by rw [Lib.cell_of_heap H0.out];rfl
    have f2:wr.frozen? ⟨w.heap.size,2,none⟩=false:=Lib.frozen_of_heap H0.out 2;have d3:wr.cell? ⟨w.heap.size,3,none⟩=some (.int .i64 0):=by rw [Lib.cell_of_heap H0.out];rfl
    have f3:wr.frozen? ⟨w.heap.size,3,none⟩=false:=Lib.frozen_of_heap H0.out 3;have d4:wr.cell? ⟨w.heap.size,4,none⟩=some (.int .i64 0):=by rw [Lib.cell_of_heap H0.out];rfl
    have f4:wr.frozen? ⟨w.heap.size,4,none⟩=false:=Lib.frozen_of_heap H0.out 4;have d5:wr.cell? ⟨w.heap.size,5,none⟩=some (.int .i64 0):=by rw [Lib.cell_of_heap H0.out];rfl
    have f5:wr.frozen? ⟨w.heap.size,5,none⟩=false:=Lib.frozen_of_heap H0.out 5;have d6:wr.cell? ⟨w.heap.size,6,none⟩=some (.int .i64 0):=by rw [Lib.cell_of_heap H0.out];rfl
    have f6:wr.frozen? ⟨w.heap.size,6,none⟩=false:=Lib.frozen_of_heap H0.out 6;have d7:wr.cell? ⟨w.heap.size,7,none⟩=some (.string ⟨#[]⟩):=by rw [Lib.cell_of_heap H0.out];rfl
    have f7:wr.frozen? ⟨w.heap.size,7,none⟩=false:=Lib.frozen_of_heap H0.out 7;clear h0 h1
    go_wp2_with fail
    obtain⟨r,Hr⟩:∃r:b9,Hid (r=b4I [a1,a2,a3,a4,a5,a6,a7] t):=⟨_,Lib.hid rfl⟩;have HM4:=HM3.out;rw [←Hr.out]at HM4;have hv: #[Value.int .i64 a1, .int .i64 a2, .int .i64 a3, .int .i64 a4, .int .i64 a5, .int .i64 a6, .int .i64 a7, .string t]=a2a r:=by rw [Hr.out];rfl
    have hst:((((((((wr.setCell ⟨w.heap.size,0,none⟩ (.int .i64 a1)).setCell ⟨w.heap.size,1,none⟩ (.int .i64 a2)).setCell ⟨w.heap.size,2,none⟩ (.int .i64 a3)).setCell ⟨w.heap.size,3,none⟩ (.int .i64 a4)).setCell ⟨w.heap.size,4,none⟩ (.int .i64 a5)).setCell ⟨w.heap.size,5,none⟩ (.int .i64 a6)).setCell ⟨w.heap.size,6,none⟩ (.int .i64 a7)).setCell ⟨w.heap.size,7,none⟩ (.string t))=stR wr w.heap.size r:=by rw [Hr.out];rfl
    rw [hv,hst];have g0:=c5r (r:=r) H0.out;have g1:(stR wr w.heap.size r).heap[w.heap.size+1]?=_:=(c6G (by omega)).trans H1.out;have gb:Below w.heap.size w (stR wr w.heap.size r):=hb.trans b5Y;have gsz:w.heap.size+3≤(stR wr w.heap.size r).heap.size:=by rw [c6N];exact hsz
    have gg:=GIW.below hgi gb;generalize stR wr w.heap.size r=W1 at g0 g1 gb gsz gg⊢;clear hv hst c0 c1 c2 c3 c4 c5 c6 d0 d1 d2 d3 d4 d5 d6 d7 f0 f1 f2 f3 f4 f5 f6 f7 Hr HM3 HD H0 H1 hb hsz hgr hL;cases hir:s8 r with
    |none=>rw [hir]at HM4;cases HM4
    |some b=>
    rw [hir]at HM4;simp only [j3]at HM4;refine(c1n r b hir W1 gg).mono ?_;rintro e w2 ⟨rfl,hb2⟩;have k0:w2.heap[w.heap.size]?=_:=(hb2.block _ (by omega)).trans g0;have k1:w2.heap[w.heap.size+1]?=_:=(hb2.block _ (by omega)).trans g1;have kb:Below w.heap.size w w2:=gb.trans (hb2.mono (by omega));have ksz:w.heap.size+3≤w2.heap.size:=by have:=hb2.size;omega
    have kg:=GIW.below hgi kb;clear g0 g1 gb gsz gg hb2;cases b with
    |false=>
     simp only [J4,F7]at HM4;have hres:res=(a4h,false):=(G4 HM4).symm;clear HM4
     go_wp2
     simp [Instr.panic,Result.andThen,Oper.upon,Exit.then];exact a9n (cs0:=a2a r) (x0:= .bool false) ⟨rfl,rfl⟩ k0 rfl k1 kb
    |true=>
     simp only [C7]at HM4;cases hen:K6 r with
     |none=>rw [hen]at HM4;cases HM4
     |some x=>
     rw [hen]at HM4;simp only [j3]at HM4;have c0:w2.cell? ⟨w.heap.size,0,none⟩=some (.int .i64 r.At.Depot):=by rw [Lib.cell_of_heap k0];rfl
     have c1:w2.cell? ⟨w.heap.size,1,none⟩=some (.int .i64 r.At.No):=by rw [Lib.cell_of_heap k0];rfl
     have c2:w2.cell? ⟨w.heap.size,2,none⟩=some (.int .i64 r.Kind):=by rw [Lib.cell_of_heap k0];rfl
     have c3:w2.cell? ⟨w.heap.size,3,none⟩=some (.int .i64 r.Day):=by rw [Lib.cell_of_heap k0];rfl
     have c4:w2.cell? ⟨w.heap.size,4,none⟩=some (.int .i64 r.Known):=by rw [Lib.cell_of_heap k0];rfl
     have c5:w2.cell? ⟨w.heap.size,5,none⟩=some (.int .i64 r.Of.Depot):=by rw [Lib.cell_of_heap k0];rfl
     have c6:w2.cell? ⟨w.heap.size,6,none⟩=some (.int .i64 r.Of.No):=by rw [Lib.cell_of_heap k0];rfl
     have c7:w2.cell? ⟨w.heap.size,7,none⟩=some (.string r.Text):=by rw [Lib.cell_of_heap k0];rfl
     have K0:=Lib.hid k0;have K1:=Lib.hid k1;have HM5:=Lib.hid HM4;clear k0 k1 HM4 hir
     go_wp2_with fail
     refine(b8Q r x hen w2 kg).mono ?_;rintro e w3 ⟨rfl,hb3⟩;have HM6:=HM5.out;have m0:w3.heap[w.heap.size]?=_:=(hb3.block _ (by omega)).trans K0.out;have m1:w3.heap[w.heap.size+1]?=_:=(hb3.block _ (by omega)).trans K1.out;have mb:Below w.heap.size w w3:=kb.trans (hb3.mono (by omega));clear HM5 hb3 kb kg ksz K0 K1 c0 c1 c2 c3 c4 c5 c6 c7;cases hx:(x.toList==s.toList)with
     |false=>
      rw [hx]at HM6;have hres:res=(a4h,false):=(G4 HM6).symm;clear HM6;subst hres
      go_wp2
      simp [Instr.panic,Result.andThen,Oper.upon,Exit.then];exact a9n (cs0:=a2a r) (x0:= .bool false) ⟨rfl,rfl⟩ m0 rfl m1 mb
     |true=>
      rw [hx]at HM6;have hres:res=(r,true):=(G4 HM6).symm;clear HM6;subst hres;have c0:w3.cell? ⟨w.heap.size,0,none⟩=some (.int .i64 r.At.Depot):=by rw [Lib.cell_of_heap m0];rfl
      have f0:w3.frozen? ⟨w.heap.size,0,none⟩=false:=Lib.frozen_of_heap m0 0;have c1:w3.cell? ⟨w.heap.size,1,none⟩=some (.int .i64 r.At.No):=by rw [Lib.cell_of_heap m0];rfl
      have f1:w3.frozen? ⟨w.heap.size,1,none⟩=false:=Lib.frozen_of_heap m0 1;have c2:w3.cell? ⟨w.heap.size,2,none⟩=some (.int .i64 r.Kind):=by rw [Lib.cell_of_heap m0];rfl
      have f2:w3.frozen? ⟨w.heap.size,2,none⟩=false:=Lib.frozen_of_heap m0 2;have c3:w3.cell? ⟨w.heap.size,3,none⟩=some (.int .i64 r.Day):=by rw [Lib.cell_of_heap m0];rfl
      have f3:w3.frozen? ⟨w.heap.size,3,none⟩=false:=Lib.frozen_of_heap m0 3;have c4:w3.cell? ⟨w.heap.size,4,none⟩=some (.int .i64 r.Known):=by rw [Lib.cell_of_heap m0];rfl
      have f4:w3.frozen? ⟨w.heap.size,4,none⟩=false:=Lib.frozen_of_heap m0 4;have c5:w3.cell? ⟨w.heap.size,5,none⟩=some (.int .i64 r.Of.Depot):=by rw [Lib.cell_of_heap m0];rfl
      have f5:w3.frozen? ⟨w.heap.size,5,none⟩=false:=Lib.frozen_of_heap m0 5;have c6:w3.cell? ⟨w.heap.size,6,none⟩=some (.int .i64 r.Of.No):=by rw [Lib.cell_of_heap m0];rfl
      have f6:w3.frozen? ⟨w.heap.size,6,none⟩=false:=Lib.frozen_of_heap m0 6;have c7:w3.cell? ⟨w.heap.size,7,none⟩=some (.string r.Text):=by rw [Lib.cell_of_heap m0];rfl
      have f7:w3.frozen? ⟨w.heap.size,7,none⟩=false:=Lib.frozen_of_heap m0 7;have cb:w3.cell? ⟨w.heap.size+1,0,none⟩=some (.bool false):=by rw [Lib.cell_of_heap m1];rfl
      have fb:w3.frozen? ⟨w.heap.size+1,0,none⟩=false:=Lib.frozen_of_heap m1 0;have M0:=Lib.hid m0;have M1:=Lib.hid m1;clear m0 m1
      go_wp2
      have g0:((stR w3 w.heap.size r).setCell ⟨w.heap.size+1,0,none⟩ (.bool true)).heap[w.heap.size]?=some (.cells (a2a r) 38 (0,0)):=(a1g (by omega)).trans (c5r M0.out)
      have g1:((stR w3 w.heap.size r).setCell ⟨w.heap.size+1,0,none⟩ (.bool true)).heap[w.heap.size+1]?=some (.cells #[.bool true] 4 (0,0)):=
       (B2 (cs:= #[.bool false]) (T:=4) (fr:=(0,0)) ((c6G (by omega)).trans M1.out)).trans rfl
      exact c3Z (r:=r) (b:=true) ⟨rfl,rfl⟩ g0 g1 ((mb.trans b5Y).setCell (p:=⟨w.heap.size+1,0,none⟩) (by simp) _)
theorem b4u (s:ByteArray) (r:b9×Bool) (hm:L1 s=some r):s9 Tryz.prog 70 [.v (.string s)] (fun x=>x= .tup [.agg (b9.c r.1),DB r.2]):=by
 intro ok w vs hr _ hgi;rw [c8I hr]
 exact(c1p s r hm w hgi).mono fun e w' ⟨he,hb⟩=>⟨_,_,he,rfl,by
  simp only [Rep];exact⟨_,rfl,c2c r.1,⟨rfl,rfl⟩,trivial⟩,hb⟩
set_option maxRecDepth 100000
set_option maxHeartbeats 8000000
def a6Y (x y:Int):Int:=if x<y then-1 else if x>y then 1 else 0
theorem a7Y (x:Int) (w:World):Calls Tryz.prog 178 #[.int .i64 x] w fun e w'=>e= .returned (.bool false)∧w'=w:=by
 have h:(x !=x)=false:=by simp
 go_enter Tryz.func178,Tryz.ntmps178
 go_wp2
 exact bodyPost_ret (v:= .bool false) (by simp [results,Tryz.results178,go_sem]) rfl ⟨rfl,rfl⟩
theorem c5D (x y:Int) (w:World):Calls Tryz.prog 166 #[.int .i64 x, .int .i64 y] w fun e w'=>e= .returned (.int .i64 (a6Y x y))∧w'=w:=by
 unfold a6Y;by_cases h1:x<y
 · rw [j2 h1]
   go_enter Tryz.func166,Tryz.ntmps166
   go_wp2_with fail
   refine(a7Y _ _).mono ?_;rintro e w' ⟨rfl,rfl⟩
   go_wp2_with fail
   refine(a7Y _ _).mono ?_;rintro e w' ⟨rfl,rfl⟩
   go_wp2
   exact bodyPost_ret (v:= .int .i64 (-1)) (by simp [results,Tryz.results166,go_sem]) rfl ⟨rfl,rfl⟩
 · rw [j0 h1];by_cases h2:x>y
   · rw [j2 h2]
     go_enter Tryz.func166,Tryz.ntmps166
     go_wp2_with fail
     refine(a7Y _ _).mono ?_;rintro e w' ⟨rfl,rfl⟩
     go_wp2_with fail
     refine(a7Y _ _).mono ?_;rintro e w' ⟨rfl,rfl⟩
     go_wp2
     exact bodyPost_ret (v:= .int .i64 1) (by simp [results,Tryz.results166,go_sem]) rfl ⟨rfl,rfl⟩
   · rw [j0 h2]
     go_enter Tryz.func166,Tryz.ntmps166
     go_wp2_with fail
     refine(a7Y _ _).mono ?_;rintro e w' ⟨rfl,rfl⟩
     go_wp2_with fail
     refine(a7Y _ _).mono ?_;rintro e w' ⟨rfl,rfl⟩
     go_wp2
     exact bodyPost_ret (v:= .int .i64 0) (by simp [results,Tryz.results166,go_sem]) rfl ⟨rfl,rfl⟩
def OrR (b:Nat) (x y:Int) (w:World) (i v:Value) (wr:World):Prop:=∃k:Nat,k≤2∧i= .int .i64 k∧wr=w∧(1≤k→x=0)∧(2≤k→y=0)
theorem d2M (b:Nat) (x y:Int) (w:World) (h0:w.cell? ⟨b,0,none⟩=some (.int .i64 x)) (h1:w.cell? ⟨b,1,none⟩=some (.int .i64 y)):Calls Tryz.prog 165 #[.slice (some ⟨b,0,none⟩) 2 2] w fun e w'=>e= .returned (.int .i64 (if x=0 then y else x))∧w'=w:=by
 go_enter Tryz.func165,Tryz.ntmps165
 go_wp2
 go_loop [8,5] (fun i v=>OrR b x y w i v w) (fun i _=>2-(intOf i).toNat)
 case atStart=>exact⟨0,by omega,rfl,rfl,by omega,by omega⟩
 case round=>
  obtain⟨k,hk,rfl,_,hx,hy⟩:=hrel;by_cases hlt:k<2
  · by_cases hk0:k=0
    · subst hk0;by_cases hx0:x=0
      · subst hx0
        go_wp2
        go_round
        case rel=>exact⟨1,by omega,rfl,rfl,fun _=>rfl,by omega⟩
        case measure=>simp [intOf]
      · go_wp2
        exact bodyPost_ret (v:= .int .i64 x) (by simp [results,Tryz.results165,go_sem]) rfl ⟨rfl,rfl⟩
    · obtain rfl:k=1:=by omega
      obtain rfl:x=0:=hx (by omega);by_cases hy0:y=0
      · subst hy0
        go_wp2
        go_round
        case rel=>exact⟨2,by omega,rfl,rfl,fun _=>rfl,fun _=>rfl⟩
        case measure=>simp [intOf]
      · go_wp2
        exact bodyPost_ret (v:= .int .i64 y) (by simp [results,Tryz.results165,go_sem]) rfl ⟨rfl,rfl⟩
  · obtain rfl:k=2:=by omega
    obtain rfl:x=0:=hx (by omega);obtain rfl:y=0:=hy (by omega)
    go_wp2
    exact bodyPost_ret (v:= .int .i64 0) (by simp [results,Tryz.results165,go_sem]) rfl ⟨rfl,rfl⟩
def Gro (w w':World):Prop:=∃q os,w'=Go.Sort.grow (w.drewN q) os
theorem Gro.refl (w:World):Gro w w:=⟨0, #[],by simp [Go.Sort.grow,World.drewN]⟩
theorem Gro.alloc {w w':World} (h:Gro w w') (o:Obj):Gro w (w'.alloc o):=by
 obtain⟨q,os,rfl⟩:=h;exact⟨q,os.push o,by simp [Go.Sort.grow,World.alloc,-World.alloc_eq]⟩
theorem Gro.drew {w w':World} (h:Gro w w'):Gro w w'.drew:=by
 obtain⟨q,os,rfl⟩:=h;exact⟨q+1,os,by simp [Go.Sort.grow,World.drewN,World.drew,-World.drew_eq,Nat.add_assoc]⟩
theorem Gro.trans {w w1 w2:World} (h:Gro w w1) (k:Gro w1 w2):Gro w w2:=by
 obtain⟨q,os,rfl⟩:=h;obtain⟨q2,os2,rfl⟩:=k;refine⟨q+q2,os++os2, ?_⟩;simp [Go.Sort.grow,World.drewN,Nat.add_assoc,Array.append_assoc]
def orI (x y:Int):Int:=if x=0 then y else x
def c8K (w:World) (v:Int) (e:Ending) (w':World):Prop:=e= .returned (.int .i64 v)∧Gro w w'
theorem d1u (b:Nat) (x y:Int) (w:World) (h0:w.cell? ⟨b,0,none⟩=some (.int .i64 x)) (h1:w.cell? ⟨b,1,none⟩=some (.int .i64 y)):Calls Tryz.prog 165 #[.slice (some ⟨b,0,none⟩) 2 2] w fun e w'=>e= .returned (.int .i64 (orI x y))∧w'=w:=d2M b x y w h0 h1
theorem c3J (a b c d:Int) (w:World):Calls Tryz.prog 147 #[.agg #[.int .i64 a, .int .i64 b], .agg #[.int .i64 c, .int .i64 d]] w (c8K w (orI (a6Y a c) (a6Y b d))):=by
 obtain⟨x,hx⟩:∃x,x=a6Y a c:=⟨_,rfl⟩;obtain⟨y,hy⟩:∃y,y=a6Y b d:=⟨_,rfl⟩;have c1:=fun w=>c5D a c w
 have c2:=fun w=>c5D b d w
 rw [←hx]at c1⊢;rw [←hy]at c2⊢;clear hx hy
 go_enter Tryz.func147,Tryz.ntmps147
 go_wp2
 have hG:Gro w ((w.alloc (.cells #[.int .i64 a, .int .i64 b] 36)).alloc (.cells #[.int .i64 c, .int .i64 d] 36)):=((Gro.refl w).alloc _).alloc _
 have h0:((w.alloc (.cells #[.int .i64 a, .int .i64 b] 36)).alloc (.cells #[.int .i64 c, .int .i64 d] 36)).heap[w.heap.size]?=some (.cells #[.int .i64 a, .int .i64 b] 36 (0,0)):=by
  rw [(MapKept.heap_alloc _ _).2 _ (by simp)];exact(MapKept.heap_alloc _ _).1
 have h1:((w.alloc (.cells #[.int .i64 a, .int .i64 b] 36)).alloc (.cells #[.int .i64 c, .int .i64 d] 36)).heap[w.heap.size+1]?=some (.cells #[.int .i64 c, .int .i64 d] 36 (0,0)):=by
  have:=(MapKept.heap_alloc (w.alloc (.cells #[.int .i64 a, .int .i64 b] 36)) (.cells #[.int .i64 c, .int .i64 d] 36)).1;rw [show(w.alloc (.cells #[.int .i64 a, .int .i64 b] 36)).heap.size=w.heap.size+1 by simp]at this;exact this
 generalize (w.alloc (.cells #[.int .i64 a, .int .i64 b] 36)).alloc (.cells #[.int .i64 c, .int .i64 d] 36)=W at hG h0 h1⊢;have e0:W.cell? ⟨w.heap.size,0,none⟩=some (.int .i64 a):=by rw [Lib.cell_of_heap h0];rfl
 have e1:W.cell? ⟨w.heap.size,1,none⟩=some (.int .i64 b):=by rw [Lib.cell_of_heap h0];rfl
 have e2:W.cell? ⟨w.heap.size+1,0,none⟩=some (.int .i64 c):=by rw [Lib.cell_of_heap h1];rfl
 have e3:W.cell? ⟨w.heap.size+1,1,none⟩=some (.int .i64 d):=by rw [Lib.cell_of_heap h1];rfl
 have hlt:=(U8.1 h1).1;clear h0 h1
 go_still_tail 10,(by kernel_rfl)
 still_call (c1 _)
 repeat still_step
 still_call (c2 _)
 refine wpStill_nil ?_;change wpList _ _ _ _ _ W.drew;have hG2:Gro w W.drew:=hG.drew;generalize W.drew=V at hG2⊢;clear hG e0 e1 e2 e3 c1 c2 hlt
 go_wp2_with fail
 have hv:=(MapKept.heap_alloc V (.cells #[.int .i64 x, .int .i64 y] 3)).1;refine(d1u V.heap.size x y _ (by rw [Lib.cell_of_heap hv];rfl) (by rw [Lib.cell_of_heap hv];rfl)).mono ?_;rintro e w' ⟨rfl,rfl⟩;clear hv
 go_wp2
 exact bodyPost_ret (v:= .int .i64 (orI x y)) (by simp [results,Tryz.results147,go_sem]) rfl ⟨rfl,hG2.alloc _⟩
def b0v (a b:b9):Int:=orI (a6Y a.At.Depot b.At.Depot) (a6Y a.At.No b.At.No)
theorem c9u (a b:b9) (w:World):Calls Tryz.prog 149 #[.agg (a2a a), .agg (a2a b)] w (c8K w (b0v a b)):=by
 have hc:=fun w=>c3J a.At.Depot a.At.No b.At.Depot b.At.No w
 unfold b0v a2a;generalize orI (a6Y a.At.Depot b.At.Depot) (a6Y a.At.No b.At.No)=r at hc⊢
 go_enter Tryz.func149,Tryz.ntmps149
 go_wp2_with fail
 refine(hc _).mono ?_;rintro e w' ⟨rfl,hG⟩;have hG2:Gro w w':=(((Gro.refl w).alloc _).alloc _).trans hG;clear hG hc
 go_wp2
 exact bodyPost_ret (v:= .int .i64 r) (by simp [results,Tryz.results149,go_sem]) rfl ⟨rfl,hG2⟩
set_option maxRecDepth 100000
set_option maxHeartbeats 8000000
def a1b (r:b9):List Value:= [.int .i64 r.At.Depot, .int .i64 r.At.No, .int .i64 r.Kind, .int .i64 r.Day, .int .i64 r.Known, .int .i64 r.Of.Depot, .int .i64 r.Of.No, .string r.Text]
theorem b0D (r:b9):(a1b r).length=8:=rfl
def a4a (l:List b9):Array b9:=Go.Sort.pdq (Go.Proofs.ltOf b0v) l.toArray 0 l.toArray.size (Lib.bitLen l.toArray.size) true true
def w5 (l:List b9):List b9:=(a4a l).toList
theorem b8u:Go.Sort.SWO (Go.Proofs.ltOf b0v):=by
 have key:∀a b:b9,Go.Proofs.ltOf b0v a b=true↔(a.At.Depot<b.At.Depot∨(a.At.Depot=b.At.Depot∧a.At.No<b.At.No)):=by
  intro a b;unfold Go.Proofs.ltOf;rw [decide_eq_true_iff];unfold b0v
  have hc:∀x y:Int,(a6Y x y= -1∧x<y)∨(a6Y x y=1∧y<x)∨(a6Y x y=0∧x=y):=fun x y=>by
   unfold a6Y;by_cases h1:x<y
   · exact .inl ⟨by rw [j2 h1],h1⟩
   · by_cases h2:x>y
     · exact .inr (.inl ⟨by rw [j0 h1,j2 h2],h2⟩)
     · exact .inr (.inr ⟨by rw [j0 h1,j0 h2],by omega⟩)
  rcases hc a.At.Depot b.At.Depot with⟨e1,g1⟩|⟨e1,g1⟩|⟨e1,g1⟩<;>rcases hc a.At.No b.At.No with⟨e2,g2⟩|⟨e2,g2⟩|⟨e2,g2⟩<;>rw [e1,e2]<;>simp [orI]<;>omega
 have kf:∀a b:b9,Go.Proofs.ltOf b0v a b=false↔¬(a.At.Depot<b.At.Depot∨(a.At.Depot=b.At.Depot∧a.At.No<b.At.No)):=by
  intro a b;rw [←key];cases Go.Proofs.ltOf b0v a b<;>simp
 refine⟨fun x=> ?_,fun x y z h1 h2=> ?_,fun x y z h1 h2=> ?_⟩
 · rw [kf];omega
 · rw [key]at h1 h2⊢;omega
 · rw [kf]at h1 h2⊢;omega
theorem c6M (blk off size:Nat) (w:World):Go.Proofs.CmpLays Tryz.prog 149 #[] a1b 8 b0v blk off size w:=by
 intro m os dk _ x y;refine(c9u x y _).mono fun e w' ⟨he,q,os',hw⟩=>⟨he,q,os',hw⟩
theorem b8S {α:Type} [Inhabited α] {c:α→List Value} {k:Nat} (hk:∀x,(c x).length=k) (h0:0<k):∀(l:List α) (t:Nat),t<l.length*k→(l.flatMap c)[t]?=some ((c l.toArray[t / k]!)[t % k]!)
 | [],t,h=>by simp at h
 |x::l,t,h=>by
  simp only [R2,P3]at h⊢;by_cases ht:t<k
  · have e1:t / k=0:=Nat.div_eq_of_lt ht;have e2:t % k=t:=Nat.mod_eq_of_lt ht;rw [b1B (by rw [hk];exact ht),e1,e2];have hx:t<(c x).length:=by rw [hk];exact ht
    simp [hx]
  · rw [b5E (by rw [hk];omega),hk];have h1:t-k<l.length*k:=by rw [N4]at h;omega
    rw [b8S hk h0 l (t-k) h1]
    have e1:t / k=(t-k) / k+1:=by
     have:t=(t-k)+k:=by omega
     conv=>lhs;rw [this]
     rw [Nat.add_div_right _ h0]
    have e2:t % k=(t-k) % k:=by
     have:t=(t-k)+k:=by omega
     conv=>lhs;rw [this]
     rw [Nat.add_mod_right]
    rw [e1,e2];have h2:(t-k) / k<l.length:=Nat.div_lt_of_lt_mul (by rw [Nat.mul_comm];exact h1);simp [h2]
theorem b6E (l:List b9):Go.Sort.flatK a1b 8 l.toArray=(l.flatMap a1b).toArray:=by
 apply I8;apply List.ext_getElem?;intro t;simp only [Go.Sort.flatK,Array.toList_map,Array.toList_range,List.getElem?_map,a9h];by_cases ht:t<l.length*8
 · rw [b8S b0D (by decide) l t ht];simp [ht]
 · have:(l.flatMap a1b).length=l.length*8:=by
    clear ht
    induction l with
    |nil=>rfl
    |cons x l ih=>simp only [R2,I9,b0D,ih,P3];omega
   rw [a9R (by simp;omega),a9R (by omega)];rfl
theorem Z5 (l:List b9):(l.flatMap a1b).length=l.length*8:=by
 induction l with
 |nil=>rfl
 |cons x l ih=>simp only [R2,I9,b0D,ih,P3];omega
theorem a7R (l:List b9):Go.Sort.PermIn 0 l.toArray.size l.toArray (a4a l)∧Go.Sort.SortedIn (Go.Proofs.ltOf b0v) 0 l.toArray.size (a4a l):=
 Go.Sort.pdq_sorts (Go.Proofs.ltOf b0v) b8u l.toArray 0 l.toArray.size (Lib.bitLen l.toArray.size) true true (I2 _) (u3 _) (Or.inl rfl)
theorem a1A (l:List b9):(w5 l).length=l.length:=by
 have:=(a7R l).1.1;simpa [w5]using this
def c5F (g:Nat) (l:List b9) (w:World) (e:Ending) (w':World):Prop:=e= .returned (.tuple #[])∧w'.heap[g]?=some (.cells ((w5 l).flatMap a1b).toArray 38 (0,0))∧(∀b,b<w.heap.size→b≠g→w'.heap[b]?=w.heap[b]?)∧w.heap.size≤w'.heap.size∧w'.os=w.os∧w'.tape=w.tape∧w'.output=w.output
theorem b7c (F cur:Array Value) (h:F.size=cur.size):Go.Sort.putCells id 0 F cur=F:=by
 apply Array.ext
 · simp [Go.Sort.putCells,h]
 · intro i h1 h2;simp [Go.Sort.putCells,h2]
theorem c9l (l:List b9) (g cap:Nat) (w:World) (hg:w.heap[g]?=some (.cells (l.flatMap a1b).toArray 38 (0,0))) (hl:l.length<4611686018427387904):Calls Tryz.prog 148 #[.slice (some ⟨g,0,none⟩) l.length cap, .func (.func 149) #[] #[]] w (c5F g l w):=by
 have hlt:=(U8.1 hg).1
 have hH:Go.Sort.HoldsK a1b 8 w g 0 l.toArray:=by
  intro j hj;rw [b6E]at hj⊢;have hj':j<(l.flatMap a1b).length:=by simpa using hj
  refine⟨?_,Lib.frozen_of_heap hg _⟩;rw [a0h,Lib.cell_of_heap hg];have h4:(l.flatMap a1b)[j]?=some (l.flatMap a1b)[j]:=G7 hj';simp only [List.getElem?_toArray,h4];simp [h4]
 have key:=Go.Proofs.AnyQ.slices_SortFunc_eq c3h 8 Tryz.isAgg38 Tryz.sizeOf38 a1b b0D (fun x v hv=>by
  simp only [a1b,o6,a7l,or_false]at hv;rcases hv with rfl|rfl|rfl|rfl|rfl|rfl|rfl|rfl<;>rfl) b0v b8u 149 #[] g 0 cap l.toArray w (enters_of Tryz.func149 (by kernel_rfl) rfl) (c6M g 0 l.toArray.size w) hH hlt (by simpa using hl)
 refine key.mono fun e w' ⟨he,n,os,hw⟩=>⟨he, ?_,fun b hb hne=> ?_, ?_, ?_, ?_, ?_⟩
 · rw [hw];unfold Go.Proofs.sortWorldK Go.Sort.grow
   have hm:(Go.Sort.putRowK a1b 8 (Go.Sort.ahead w n) g 0 (a4a l)).heap[g]?=some (.cells ((w5 l).flatMap a1b).toArray 38 (0,0)):=by
    unfold Go.Sort.putRowK Go.Sort.putRow Go.Sort.mapBlock;rw [show a4a l=(w5 l).toArray by simp [w5],b6E];simp only [Go.Sort.ahead,Array.getElem?_modify,hg,C7,a5K,Go.Sort.onCells];congr 2;exact b7c _ _ (by simp only [a9h,Z5,a1A])
   rw [a6R]
   · exact hm
   · exact(U8.1 hm).1
 · rw [hw];unfold Go.Proofs.sortWorldK Go.Sort.grow
   have hm:(Go.Sort.putRowK a1b 8 (Go.Sort.ahead w n) g 0 (a4a l)).heap[b]?=w.heap[b]?:=by
    unfold Go.Sort.putRowK Go.Sort.putRow Go.Sort.mapBlock;simp only [Go.Sort.ahead,Array.getElem?_modify];rw [j0 (Ne.symm hne)]
   rw [a6R]
   · exact hm
   · rw [Go.Sort.size_putRowK];exact hb
 · rw [hw];unfold Go.Proofs.sortWorldK Go.Sort.grow;have:(Go.Sort.putRowK a1b 8 (Go.Sort.ahead w n) g 0 (a4a l)).heap.size=w.heap.size:=Go.Sort.size_putRowK ..;simp only [Array.size_append];unfold a4a at this;omega
 · rw [hw];rfl
 · rw [hw];rfl
 · rw [hw];rfl
set_option maxRecDepth 100000
set_option maxHeartbeats 8000000
def c2Z (w:World) (l:List b9) (v:Value):Prop:=∃a c,v= .slice a l.length c∧(l= []∨∃b o,a=some ⟨b,o,none⟩∧b<w.heap.size∧∀j,j<l.length*8→w.cell? ⟨b,o+j,none⟩=(l.flatMap a1b)[j]?)
def c0M (l:List b9) (w:World) (e:Ending) (w':World):Prop:=∃g cap,e= .returned (.agg #[.slice (some ⟨g,0,none⟩) l.length cap])∧cap=l.length∧w.heap.size≤g∧w'.heap[g]?=some (.cells ((w5 l).flatMap a1b).toArray 38 (0,0))∧Below w.heap.size w w'
theorem c9b (n:Nat) (hn:n*72≤140737488355328):∃cur:Array Value,cur.size=n*8∧∀w,(Instr.makeSlice 27 (.int .i64 n) (.int .i64 n)).run Tryz.prog w= .ok (.slice (some ⟨w.heap.size,0,none⟩) n n) (w.alloc (.cells cur 38)):=by
 obtain⟨i,z,hi,hz,hs,hby⟩:∃i z,Tryz.prog.info? 38=some i∧i.zero=some z∧i.size=8∧i.bytes=72:=by
  have h:(Tryz.prog.info? 38).map (fun i=>(i.zero.isSome,i.size,i.bytes))=some (true,8,72):=by kernel_rfl
  cases hi:Tryz.prog.info? 38 with
  |none=>rw [hi]at h;cases h
  |some i=>
   rw [hi]at h;simp only [a5K,U3,a4p]at h;cases hz:i.zero with
   |none=>rw [hz]at h;cases h.1
   |some z=>exact⟨i,z,rfl,hz,h.2.1,h.2.2⟩
 refine⟨madeCells z.cells (n*i.size),by simp [madeCells,hs],fun w=> ?_⟩;have:=run_make (P:=Tryz.prog) w 27 38 i z (by kernel_rfl) hi hz .i64 .i64 n n (by omega) (Int.le_refl _) (by rw [hby];omega) (by omega);simpa using this
theorem c6a (l:List b9) (a:Option Addr) (c g ty:Nat) (W:World) (cur:Array Value) (hg:W.heap[g]?=some (.cells cur 38 (0,0))) (hc:cur.size=l.length*8) (hh:c2Z W l (.slice a l.length c)):
 ∃W2,(Builtin.copy_ #[27,27] ty #[.slice (some ⟨g,0,none⟩) l.length l.length, .slice a l.length c]).run Tryz.prog W= .ok (goInt l.length) W2∧W2.heap[g]?=some (.cells (l.flatMap a1b).toArray 38 (0,0))∧(∀b,b≠g→W2.heap[b]?=W.heap[b]?)∧W2.heap.size=W.heap.size∧W2.os=W.os∧W2.tape=W.tape∧W2.output=W.output:=by
 obtain⟨a',c',he,hh⟩:=hh;obtain⟨rfl,_,rfl⟩:a=a'∧True∧c=c':=by simpa using he
 rcases hh with rfl|⟨b,o,rfl,hb,hcell⟩
 · refine⟨W, ?_, ?_,fun _ _=>rfl,rfl,rfl,rfl,rfl⟩
   · cases a with
     |none=>simp [Builtin.copy_,run_underlying Tryz.underlying27,Builtin.lenOf,Builtin.firstCells,Tryz.sizeOf38,goInt];rfl
     |some a=>simp [Builtin.copy_,run_underlying Tryz.underlying27,Builtin.lenOf,Builtin.firstCells,Tryz.sizeOf38,goInt];rfl
   · rw [hg];have:cur= #[]:=Array.eq_empty_of_size_eq_zero (by simpa using hc)
     rw [this];rfl
 · have hrun:=b1Y (P:=Tryz.prog) (e:=38) (esz:=8) W 27 27 ty g 0 l.length l.length ⟨b,o,none⟩ l.length c cur 38 (l.flatMap a1b) (by kernel_rfl) Tryz.sizeOf38 hg (by rw [Z5];simp)
    (fun j v hj=>by
     have hlt:j<l.length*8:=by rw [←Z5];exact(L6.1 hj).1
     rw [L5,hcell j hlt,hj]) (by rw [Z5,hc];omega) (fun v hv=>by
     obtain⟨r,_,hv⟩:=List.mem_flatMap.1 hv;simp only [a1b,o6,a7l,or_false]at hv;rcases hv with rfl|rfl|rfl|rfl|rfl|rfl|rfl|rfl<;>rfl)
   have hthis:cur.toList.take 0++l.flatMap a1b++cur.toList.drop (0+(l.flatMap a1b).length)=l.flatMap a1b:=by
    rw [List.drop_of_length_le (by rw [Z5];simp;omega)];simp
   rw [hthis,show Nat.min l.length l.length=l.length from Nat.min_self _]at hrun;refine⟨_,hrun,setRow_heap W g cur _ 38 _ hg,fun b hb=>setRow_other W g b _ hb,by simp [World.setRow],rfl,rfl,rfl⟩
theorem b3D (l:List b9) (a:Option Addr) (c:Nat) (w:World) (hh:c2Z w l (.slice a l.length c)) (hl:l.length*72≤140737488355328):Calls Tryz.prog 104 #[.slice a l.length c] w (c0M l w):=by
 have h1:(0:Int)≤(l.length:Int):=Int.natCast_nonneg _;obtain⟨cur,hcur,hmk⟩:=c9b l.length hl;obtain⟨W1,HW⟩:∃W1,Hid (W1=(w.alloc (.cells #[.slice none 0 0] 70)).alloc (.cells cur 38)):=⟨_,Lib.hid rfl⟩;have hs1:W1.heap.size=w.heap.size+2:=by rw [HW.out];simp
 have hb1:Below w.heap.size w W1:=by rw [HW.out];exact((Below.refl _ _).alloc (u3 _) _).alloc (by simp) _
 have hg1:W1.heap[w.heap.size+1]?=some (.cells cur 38 (0,0)):=by
  have:=(MapKept.heap_alloc (w.alloc (.cells #[.slice none 0 0] 70)) (.cells cur 38)).1;rw [show(w.alloc (.cells #[.slice none 0 0] 70)).heap.size=w.heap.size+1 by simp]at this;rw [HW.out];exact this
 have hg0:W1.heap[w.heap.size]?=some (.cells #[.slice none 0 0] 70 (0,0)):=by
  rw [HW.out,(MapKept.heap_alloc _ _).2 _ (by simp)];exact(MapKept.heap_alloc _ _).1
 have hh1:c2Z W1 l (.slice a l.length c):=by
  obtain⟨a',c',he,hh⟩:=hh;refine⟨a',c',he,hh.imp id fun⟨b,o,e1,hb,hc⟩=>⟨b,o,e1,by omega,fun j hj=> ?_⟩⟩;rw [←hc j hj];exact hb1.cell (p:=⟨b,o+j,none⟩) hb
 obtain⟨W2,hcp,k1,k2,k3,k4,k5,k6⟩:=c6a l a c (w.heap.size+1) 3 W1 cur hg1 hcur hh1;have hb2:Below w.heap.size w W2:=hb1.trans ⟨k4,k5,k6,by omega,fun b hb=>k2 b (by omega)⟩;have hk0:W2.heap[w.heap.size]?=some (.cells #[.slice none 0 0] 70 (0,0)):=by rw [k2 _ (by omega)];exact hg0
 rw [HW.out]at hcp;have HCP:=Lib.hid hcp;have K1:=Lib.hid k1;have K0:=Lib.hid hk0;have K3:=Lib.hid k3;clear hcur hs1 hb1 hg1 hg0 hh1 hcp k1 k2 k3 k4 k5 k6 hk0 HW
 go_enter Tryz.func104,Tryz.ntmps104
 go_wp2
 rw [HCP.out];simp only [Result.andThen_ok];rw [Oper.upon_value]
 go_wp2_with fail
 refine(c9l l (w.heap.size+1) l.length W2 K1.out (by omega)).mono ?_;rintro e W3 ⟨rfl,g1,g2,g3,g4,g5,g6⟩;have q0:W3.heap[w.heap.size]?=some (.cells #[.slice none 0 0] 70 (0,0)):=by rw [g2 _ (by have:=(U8.1 K0.out).1;exact this) (by omega)];exact K0.out
 have hb3:Below w.heap.size w W3:=hb2.trans ⟨g4,g5,g6,g3,fun b hb=>g2 b (by have:=hb2.size;omega) (by omega)⟩;have c0:W3.cell? ⟨w.heap.size,0,none⟩=some (.slice none 0 0):=by rw [Lib.cell_of_heap q0];rfl
 have f0:W3.frozen? ⟨w.heap.size,0,none⟩=false:=Lib.frozen_of_heap q0 0;have G1:=Lib.hid g1;have Q0:=Lib.hid q0;clear g1 g2 g3 g4 g5 g6 q0 hb2
 go_wp2
 have hcell:(W3.setCell ⟨w.heap.size,0,none⟩ (.slice (some ⟨w.heap.size+1,0,none⟩) l.length l.length)).cell? ⟨w.heap.size,0,none⟩=some (.slice (some ⟨w.heap.size+1,0,none⟩) l.length l.length):=by
  rw [Lib.cell_of_heap (B2 Q0.out)];rfl
 exact bodyPost_ret (v:= .agg #[.slice (some ⟨w.heap.size+1,0,none⟩) l.length l.length]) (by simp [results,Tryz.results104,go_sem,hcell]) rfl
  ⟨w.heap.size+1,l.length,rfl,rfl,by omega,(a1g (by omega)).trans G1.out,hb3.setCell (p:=⟨w.heap.size,0,none⟩) (u3 _) _⟩
theorem b9v {ok:Nat→Prop} {w:World}:∀ {l:List b9} {xs:List Value},j6 ok w (l.flatMap b9.c) xs→xs=l.flatMap a1b
 | [], [],_=>rfl
 | [],_::_,h=>by simp [j6]at h
 |r::l,xs,h=>by
  match xs,h with
  |a1::a2::a3::a4::a5::a6::a7::a8::xs,h=>
   simp only [R2,b9.c,a0i,a1u,j6,Rep]at h;obtain⟨h1,h2,h3,h4,h5,h6,h7,h8,h9⟩:=h;rw [h1.1,h2.1,h3.1,h4.1,h5.1,h6.1,h7.1,h8.1,b9v h9];rfl
theorem b1g {ok:Nat→Prop} {w:World}:∀(l:List b9),j6 ok w (l.flatMap b9.c) (l.flatMap a1b)
 | []=>trivial
 |r::l=>by
  simp only [R2,b9.c,a1b,a0i,a1u,j6,Rep,a2B,a1f,X6];exact b1g l
theorem b8V {ok:Nat→Prop} {w:World} {l:List b9} {v:Value} (hok:∀b,ok b→b<w.heap.size) (h:Rep ok w (lD 8 l b9.c) v):∃a c,v= .slice a l.length c∧c2Z w l v:=by
 simp only [lD,Rep]at h;obtain⟨a,c,rfl,hnc,_,_,_,h⟩:=h;refine⟨a,c,rfl,a,c,rfl, ?_⟩;rcases h with h|⟨b,o,xs,rfl,hb,hr,hc⟩
 · exact .inl (a3t (by omega))
 · exact .inr ⟨b,o,rfl,hok b hb,fun j hj=>by rw [hc j hj,b9v hr]⟩
def u5 (l:List b9):Option y0:=gd (l.length*72≤140737488355328) (some ⟨w5 l⟩)
theorem V1 (l:List b9) (r:y0) (hm:u5 l=some r):s9 Tryz.prog 104 [lD 8 l b9.c] (fun x=>x= .agg (y0.c r)):=by
 obtain⟨hg,hm⟩:=j4 hm;cases hm;intro ok w vs hr hok _
 match vs,hr with
 | [],hr=>simp [j6]at hr
 |_::_::_,hr=>simp [j6]at hr
 | [v],hr=>
  simp only [j6,and_true]at hr;obtain⟨a,c,rfl,hh⟩:=b8V hok hr;refine(b3D l a c w hh hg).mono fun e w' ⟨g,cap,he,hcap,hge,hcells,hb⟩=>⟨_,_,he,rfl, ?_,hb⟩
  have hle:l.length≤cap:=Nat.le_of_eq hcap.symm;simp only [Rep,y0.c,lD];refine⟨_,rfl,⟨?_,trivial⟩,rfl⟩;simp only [Rep];refine⟨_,cap,by rw [a1A],by rw [a1A];exact hle,by rw [a1A];omega, ?_, ?_, .inr ⟨g,0,(w5 l).flatMap a1b,rfl, .inr ⟨hge,(U8.1 hcells).1⟩,b1g _,fun j hj=> ?_⟩⟩
  · exact a3L (c:=b9.c) (z:=8) (fun _=>rfl) _
  · exact J2 fun d hd=>by
     obtain⟨r,_,hd⟩:=List.mem_flatMap.1 hd;simp only [b9.c,o6,a7l,or_false]at hd;rcases hd with rfl|rfl|rfl|rfl|rfl|rfl|rfl|rfl<;>rfl
  · rw [a0h,Lib.cell_of_heap hcells];simp
set_option maxRecDepth 100000
set_option maxHeartbeats 8000000
theorem c3y (l:List b9):z7 (l.flatMap b9.c)=true:=J2 fun d hd=>by
 obtain⟨r,_,hd⟩:=List.mem_flatMap.1 hd;simp only [b9.c,o6,a7l,or_false]at hd;rcases hd with rfl|rfl|rfl|rfl|rfl|rfl|rfl|rfl<;>rfl
theorem b2r (l:List b9) (r:y0) (hm:u5 l=some r):b9f Tryz.prog 104 [lD 8 l b9.c] [(8,r.Records.length,r.Records.flatMap b9.c,38)] [.row 0 8]:=by
 obtain⟨hg,hm⟩:=j4 hm;cases hm;refine⟨rfl, ?_⟩;intro ok w vs hr hok _
 match vs,hr with
 | [],hr=>simp [j6]at hr
 |_::_::_,hr=>simp [j6]at hr
 | [v],hr=>
  simp only [j6,and_true]at hr;obtain⟨a,c,rfl,hh⟩:=b8V hok hr;refine(b3D l a c w hh hg).mono fun e w' ⟨g,cap,he,hcap,hge,hcells,hb⟩=>⟨[.slice (some ⟨g,0,none⟩) l.length cap], [.slice (some ⟨g,0,none⟩) l.length cap],he, ?_, ?_, ?_, ?_,hb⟩
  · intro b hb;simp [n9]at hb;subst hb;exact⟨hge,(U8.1 hcells).1⟩
  · simp [n9]
  · refine⟨⟨(w5 l).flatMap a1b, ?_,b1g _,c3y _,a3L (c:=b9.c) (z:=8) (fun _=>rfl) _⟩,trivial⟩;refine⟨by rw [Z5], .inr ⟨g,cap,_,by rw [a1A],I2 _,hcells,by rw [a1A];omega,by unfold maxLen;omega,by simp only [a9h,Z5,a1A,hcap], ?_⟩⟩;rw [a3n (by simp only [Z5];omega)]
  · simp [P8]
end Go.Proofs.YtggdlgclohnbaaaGreatDoor
