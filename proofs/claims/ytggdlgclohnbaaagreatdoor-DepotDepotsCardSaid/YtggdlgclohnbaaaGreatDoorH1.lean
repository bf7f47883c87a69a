/- Walks by hand. -/
import Derived.Test.YtggdlgclohnbaaaGreatDoorL0
import Derived.WalkKit
import Derived.Lib.Walk
import Derived.Lib.SliceRun
import Derived.Lib.AppendZerosOnto
import Derived.Lib.Hide
import Derived.Lib.OthersKept
import Derived.Laws.Externs
import Derived.LoopTactic
import Derived.Deep.RegionHeld3
import Derived.WalkSpells
import Derived.StillTactics
import Derived.Lib.ItoaLen
set_option linter.unusedVariables false
set_option linter.unusedSimpArgs false
namespace Go
theorem G4:type_of% @Go.Lib.cell_of_heap:=@Go.Lib.cell_of_heap
theorem U1:type_of% @Go.Lib.frozen_of_heap:=@Go.Lib.frozen_of_heap
theorem P2:type_of% @Go.Lib.hid:=@Go.Lib.hid
theorem b0E:type_of% @ByteArray.size_append:=@ByteArray.size_append
theorem a5G:type_of% @Go.bodyPost_ret:=@Go.bodyPost_ret
end Go
namespace Go.Proofs.YtggdlgclohnbaaaGreatDoor
open Go Go.RowKit Go.Sx Go.Lib Go.Proofs.Tryz
set_option maxRecDepth 100000
set_option maxHeartbeats 4000000
theorem c8a{P:Program}{t tn e:TypeId}{i:TypeInfo}{z:Value}(ht:P.underlying t=some (.slice e))(htn:P.underlying tn=some (.int .i64))(hi:P.info? e=some i)(hz:i.zero=some z)(hs:0<i.size)
 (n:Nat) (h0:0<n) (hb:n*i.bytes≤140737488355328) (h63:n≤4611686018427387904) (w:World) (ty:TypeId):
 (Builtin.append_ #[t,tn] ty #[.slice none 0 0,.int .i64 (n:Int)]).run P w=.ok (.slice (some ⟨w.heap.size,0,none⟩) n (grownCap w n 0 e)) (w.drew.alloc (.cells (Builtin.zeroCells z.cells n++Builtin.zeroCells z.cells (grownCap w n 0 e-n)) e)):=by
 have h:=Lib.run_append_grow_zeros w t tn ty e i z .i64 .i64 ht htn hi hz none 0 0 [] (run_firstCells_none w.drew i.size 0 0 0) n h0 hs (by omega) (by omega) (by omega) (by simpa using growslice_fits (need:=n) (old:=0) (bytes:=i.bytes) (by omega) (by omega))
 simpa using h
theorem c9a(n:Nat)(h0:0<n)(hb:n*48≤140737488355328)(h63:n≤4611686018427387904)(w:World):
 Calls Tryz.prog 159 #[.slice none 0 0,.int .i64 n] w fun e w'=>e=.returned (.slice (some ⟨w.heap.size,0,none⟩) 0 (grownCap w n 0 53))∧∃cur,cur.size=grownCap w n 0 53*5∧w'=w.drew.alloc (.cells cur 53):=by
 obtain⟨i,z,hi,hz,hs,hby,hzc⟩:∃i z,Tryz.prog.info? 53=some i∧i.zero=some z∧i.size=5∧i.bytes=48∧z.cells.size=5:=by
  have h:(Tryz.prog.info? 53).map (fun i=>(i.zero.map (fun z=>z.cells.size),i.size,i.bytes))=some (some 5,5,48):=by kernel_rfl
  cases hi:Tryz.prog.info? 53 with
  |none=>rw[hi]at h;cases h
  |some i=>
   rw[hi]at h;simp only[a6T,Y9,a5l]at h;cases hz:i.zero with
   |none=>rw[hz]at h;cases h.1
   |some z=>rw[hz]at h;exact⟨i,z,rfl,hz,h.2.1,h.2.2,by simpa using h.1⟩
 have hrz:=fun ty=>c8a (P:=Tryz.prog) (t:=22) (tn:=3) (e:=53) (i:=i) (z:=z) (by kernel_rfl) (by kernel_rfl) hi hz (by omega) n h0 (by rw[hby];exact hb) h63 w ty
 have hgc:=grownCap_ge w n 0 53
 have hlen:(Builtin.zeroCells z.cells n++Builtin.zeroCells z.cells (grownCap w n 0 53-n)).size=grownCap w n 0 53*5:=by
  simp[Builtin.zeroCells,hzc];omega
 obtain⟨cur,hcur⟩:∃cur,cur=Builtin.zeroCells z.cells n++Builtin.zeroCells z.cells (grownCap w n 0 53-n):=⟨_,rfl⟩;rw[←hcur]at hlen hrz;obtain⟨G,hG⟩:∃G,G=grownCap w n 0 53:=⟨_,rfl⟩;rw[←hG]at hrz hlen hgc⊢
 have hG63:G≤9223372036854775807:=by
  have:=grownCap_le_maxLen w n 0 53 (by unfold maxLen;omega);rw[←hG]at this;unfold maxLen at this;omega
 have h1:¬((n:Int)<0):=by omega
 have h4:(n:Int)>0:=by omega
 clear hcur hG hi hz hs hby hzc;have hl:=P2 hlen;clear hlen
 go_enter func159,Tryz.ntmps159
 go_wp2_with (at_builtin;refine Lib.wpList_append_run _ rfl _ _ _ _ rfl _ _ rfl rfl _ _ (hrz _) ?_)
 all_goals (go_ret;exact⟨rfl,_,hl.out,rfl⟩)
theorem c6c(w:World):Calls Tryz.prog 159 #[.slice none 0 0,.int .i64 0] w fun e w'=>e=.returned (.slice none 0 0)∧w'=w:=by
 go_enter func159,Tryz.ntmps159
 go_wp2
 exact a5G (v:=.slice none 0 0) (by simp[results,Tryz.results159,go_sem]) rfl ⟨rfl,rfl⟩
theorem a3x(n:Int)(hg:0≤n∧n*48≤140737488355328):b8M Tryz.prog 159 [.v (.slice none 0 0),DI n] 5 0 [] 53:=by
 intro ok w vs hr _ _;rw[d0M hr];obtain⟨k,rfl⟩:∃k:Nat,n=(k:Int):=⟨n.toNat,(b2K hg.1).symm⟩;by_cases h0:k=0
 ·subst h0;refine(c6c w).mono fun e w' ⟨he,hw⟩=>?_
  subst hw;exact⟨_,he,fun b hb=>by simp[r6]at hb,⟨[],World.ownsRow_nil _ _ _ _,trivial,rfl,rfl⟩,Below.refl _ _⟩
 ·refine(c9a k (by omega) (by omega) (by omega) w).mono fun e w' ⟨he,cur,hc,hw⟩=>?_
  subst hw;refine⟨_,he,fun b hb=>by simp[r6]at hb;omega,⟨[],⟨rfl,.inr ⟨w.heap.size,_,cur,rfl,L0 _,(a2U w.drew _).1,L0 _,grownCap_le_maxLen w k 0 53 (by unfold maxLen;omega),hc,rfl⟩⟩,trivial,rfl,rfl⟩,?_⟩;have:Below w.heap.size w w.drew:=⟨rfl,rfl,rfl,y6 _,fun _ _=>rfl⟩;exact this.alloc (by simp) _
set_option maxRecDepth 100000
set_option maxHeartbeats 4000000
theorem c1Q(b:Nat)(w:World)(h0:w.cell? ⟨b,0,none⟩=some (.pointer (some ⟨b,0,none⟩))):
 Calls Tryz.prog 162 #[.pointer (some ⟨b,0,none⟩)] w fun e w'=>e=.returned (.tuple #[])∧w'=w:=by
 obtain⟨j,hj,_⟩:=Option.map_eq_some_iff.1 (show(Tryz.prog.info? 191).map (·.size)=some 2 by kernel_rfl)
 go_enter func162,Tryz.ntmps162
 go_wp2
 rw[Lib.run_neq_ptr_same w _ underlying188 hj]
 go_wp2
 go_end0
 exact⟨rfl,rfl⟩
theorem b9N(b:Nat)(w:World)(h0:w.cell? ⟨b,0,none⟩=some (.pointer none))(hsh:w.shape? b=some (191,2))(hfz:w.frozen? ⟨b,0,none⟩=false):
 Calls Tryz.prog 162 #[.pointer (some ⟨b,0,none⟩)] w fun e w'=>e=.returned (.tuple #[])∧w'=w.setCell ⟨b,0,none⟩ (.pointer (some ⟨b,0,none⟩)):=by
 obtain⟨j,hj,hjs⟩:=Option.map_eq_some_iff.1 (show(Tryz.prog.info? 191).map (·.size)=some 2 by kernel_rfl)
 go_enter func162,Tryz.ntmps162
 go_wp2
 rw[Lib.run_to_unsafe w ⟨b,0,none⟩ underlying188 underlying224 hj (by rw[hjs];decide) hsh (Nat.zero_lt_succ 1)];simp only[Result.andThen];rw[Oper.upon_value]
 go_wp2
 rw[run_callFunc_extern func176 (by kernel_rfl) (by kernel_rfl) (by kernel_rfl) (e:=Extern.AbiNoEscape.same) (by kernel_rfl)];rw[Lib.run_noEscape];simp only[Result.andThen];rw[Oper.upon_value]
 go_wp2
 rw[Lib.run_from_unsafe w ⟨b,0,none⟩ underlying224 underlying188 hj hsh (by kernel_rfl)];simp only[Result.andThen];rw[Oper.upon_value]
 go_wp2
 go_end0
 exact⟨rfl,rfl⟩
theorem d1g(B b:Nat)(bs:List Value)(w:World)(h:Lib.IsBuilder 191 5 B b bs w):
 Calls Tryz.prog 162 #[.pointer (some ⟨b,0,none⟩)] w fun e w'=>e=.returned (.tuple #[])∧Lib.BuilderAt 191 5 B b (.pointer (some ⟨b,0,none⟩)) bs w'∧Below B w w'∧Lib.OthersKept 5 (some b) w w':=by
 rcases h with h|h
 ·refine(b9N b w h.cell0 h.shape h.frozen0).mono ?_;rintro e w' ⟨rfl,rfl⟩;exact⟨rfl,h.used _,(Below.refl B w).setCell (p:=⟨b,0,none⟩) h.1 _,(Lib.OthersKept.refl _ _ w).setCell ⟨b,0,none⟩ rfl _⟩
 ·refine(c1Q b w h.cell0).mono ?_;rintro e w' ⟨rfl,rfl⟩;exact⟨rfl,h,Below.refl B _,Lib.OthersKept.refl _ _ _⟩
theorem d1E(B b:Nat)(bs:List Value)(s:ByteArray)(w:World)(h:Lib.IsBuilder 191 5 B b bs w)(hlen:bs.length+s.size≤140737488355328)(hBw:B≤w.heap.size):
 Calls Tryz.prog 140 #[.pointer (some ⟨b,0,none⟩),.string s] w fun e w'=>e=.returned (.tuple #[.int .i64 s.size,.nilIface])∧Lib.IsBuilder 191 5 B b (bs++Lib.strCells s) w'∧Below B w w'∧Lib.OthersKept 5 (some b) w w':=by
 obtain⟨i0,hi,hz0,hz1,hz2⟩:=info_parts c0Z.infoByte;have e240:∀args w,(callFunc 162 args).run Tryz.prog w=.ok (.enter 162 args) w:=enters_of func162 (by kernel_rfl) rfl
 go_enter func140,Tryz.ntmps140
 go_wp2_with (go_at_fn 162;refine(d1g B b bs _ h).mono ?_)
 rintro e w1 ⟨rfl,h1,hb1,hk1⟩;obtain⟨hB,v,hbk,hown,hne⟩:=h1;have c0:w1.cell? ⟨b,0,none⟩=some (.pointer (some ⟨b,0,none⟩)):=by rw[G4 hbk];rfl
 have c1:w1.cell? ⟨b,1,none⟩=some v:=by rw[G4 hbk];rfl
 go_wp2_with (at_builtin;refine Lib.wpList_append_own_string _ rfl _ _ 189 9 rfl B 5 i0 underlying189 underlying9 hi hz0 hz1 hz2 _ _ _ rfl hown s rfl ?c3 ?c4 ?c5 ?_)
 case c3=>unfold maxLen;omega
 case c4=>omega
 case c5=>have:=hb1.size;omega
 intro v' w2 hown' hgrow _;have hlt:b<w1.heap.size:=(Z8.1 hbk).1
 have hb2:w2.heap[b]?=some (.cells #[.pointer (some ⟨b,0,none⟩),v] 191 (0,0)):=by
  rw[hgrow.block b hlt (fun e=>hne e.symm)];exact hbk
 have d0:w2.cell? ⟨b,0,none⟩=some (.pointer (some ⟨b,0,none⟩)):=by rw[G4 hb2];rfl
 have d1:w2.cell? ⟨b,1,none⟩=some v:=by rw[G4 hb2];rfl
 have f1:w2.frozen? ⟨b,1,none⟩=false:=U1 hb2 1
 obtain⟨ao,n',cap,rfl⟩:∃ao n' cap,v'=.slice ao n' cap:=by
  rcases hown'.2 with⟨hv,_⟩|⟨g,cap,cur,hv,_⟩
  ·exact⟨_,_,_,hv⟩
  ·exact⟨_,_,_,hv⟩
 go_wp2
 go_ret2
 refine⟨rfl,.inr ?_,?_,(hk1.grown hgrow (Lib.ownsRowF_kind (World.ownsRowF_of hown))).setCell ⟨b,1,none⟩ rfl _⟩
 ·exact Lib.BuilderAt.put (T:=191) (e:=5) hB hb2 (bs':=bs++Lib.strCells s) (by simpa[Lib.strCells_length]using hown') (by decide)
 ·exact(hb1.grown hgrow (by have:=hb1.size;omega) (fun k hk=>(hown.lt k hk).1)).setCell (p:=⟨b,1,none⟩) hB _
set_option maxRecDepth 100000
set_option maxHeartbeats 8000000
def O4(ns:List Int):List UInt8:=ns.flatMap fun n=>Lib.itoa n++ [32]
theorem b7Z(ns:List Int)(n:Int):O4 (ns++ [n])=O4 ns++(Lib.itoa n++ [32]):=by simp[O4]
theorem b7Y{ns:List Int}{k:Nat}(h:k<ns.length):O4 (ns.take (k+1))=O4 (ns.take k)++(Lib.itoa (ns.getD k 0)++ [32]):=by
 rw[a4l h,b7Z];simp[List.getD,h]
def InR(ns:List Int):Prop:=∀n,n∈ns→-9223372036854775808≤n∧n≤9223372036854775807
theorem b1T{ns:List Int}(h:InR ns)(k:Nat): -9223372036854775808≤ns.getD k 0∧ns.getD k 0≤9223372036854775807:=by
 by_cases hk:k<ns.length
 ·have:=h ns[k] (Y8 hk);simpa[List.getD,hk]using this
 ·simp[List.getD,hk]
def d4k(n:Nat)(ns:List Int)(w:World)(t:ByteArray)(i:Value)(wr:World):Prop:=
 ∃k:Nat,k≤7∧i=.int .i64 k∧Lib.IsBuilder 191 5 (n+1) (n+1) (Lib.byteCells (O4 (ns.take k))) wr∧Below n w wr∧n+3≤wr.heap.size∧(∀j:Nat,j<7→wr.heap[n+2]?=some (.cells (ns.map (Value.int .i64)).toArray 3 (0,0)))∧wr.cell? ⟨n,7,none⟩=some (.string t)∧(O4 (ns.take k)).length≤30*k
theorem c7e:a9j Tryz.prog "internal/strconv.uint64pow10" 3:=⟨by kernel_rfl,by kernel_rfl⟩
theorem d1p(n:Int)(h: -9223372036854775808≤n∧n≤9223372036854775807)(w:World)(hgi:GIW Tryz.prog w):Calls Tryz.prog 141 #[.int .i64 n] w fun e w'=>e=.returned (.string ⟨(Lib.itoa n).toArray⟩)∧Below w.heap.size w w':=
 (Go.Proofs.Any.strconv_Itoa c6j n h.1 h.2 w (hgi.tab c7e)).mono fun e w' ⟨he,k,os,hw⟩=>⟨he,by subst hw;exact Lib.below_grow _ w (y6 _) k os⟩
theorem c6t{n:Nat}{ns:List Int}{w wr w1 w2:World}{t:ByteArray}{k:Nat}(hn:ns.length=7)(hk:k<7)(hin:InR ns)(hb:Below n w wr)(hs:n+3≤wr.heap.size)(hc:wr.heap[n+2]?=some (.cells (ns.map (Value.int .i64)).toArray 3 (0,0)))(hx:wr.cell? ⟨n,7,none⟩=some (.string t))(hl:(O4 (ns.take k)).length≤30*k)
 (h1:Below wr.heap.size wr w1) (h2:Lib.IsBuilder 191 5 (n+1) (n+1) (Lib.byteCells (O4 (ns.take k))++Lib.strCells (⟨(Lib.itoa (ns.getD k 0)).toArray⟩++⟨#[32]⟩)) w2) (h3:Below (n+1) w1 w2) (h4:Lib.OthersKept 5 (some (n+1)) w1 w2):d4k n ns w t (.int .i64 ((k+1:Nat):Int)) w2:=by
 have he:Lib.byteCells (O4 (ns.take k))++Lib.strCells (⟨(Lib.itoa (ns.getD k 0)).toArray⟩++⟨#[32]⟩)=Lib.byteCells (O4 (ns.take (k+1))):=by
  rw[b7Y (by omega),Lib.byteCells_append];congr 1
 rw[he]at h2;have hlen:=Lib.itoa_length_le (ns.getD k 0) (b1T hin k).1 (b1T hin k).2;refine⟨k+1,by omega,rfl,h2,(hb.trans (h1.mono (by omega))).trans (h3.mono (by omega)),?_,fun _ _=>?_,?_,?_⟩
 ·have:=h1.size;have:=h3.size;omega
 ·refine h4 (n+2) _ ?_ (by simp) (by intro c fz e;cases e);rw[h1.block (n+2) (by omega)];exact hc
 ·rw[h3.cell (p:=⟨n,7,none⟩) (by simp),h1.cell (p:=⟨n,7,none⟩) (by simp;omega)];exact hx
 ·rw[b7Y (by omega),O6,O6];simp only[List.length_singleton];omega
theorem c1G{T e:TypeId}{B b:Nat}{p:Value}{bs:List Value}{w:World}(h:Lib.BuilderAt T e B b p bs w)(o:Obj):Lib.BuilderAt T e B b p bs (w.alloc o):=by
 obtain⟨hB,v,hb,hown,hne⟩:=h;exact⟨hB,v,by rw[(a2U w o).2 b (Z8.1 hb).1];exact hb,hown.alloc o,hne⟩
theorem b7P{T e:TypeId}{B b:Nat}{p:Value}{bs:List Value}{w w':World}(h:Lib.BuilderAt T e B b p bs w)(hb:Below w.heap.size w w'):Lib.BuilderAt T e B b p bs w':=by
 obtain⟨hB,v,hbk,hown,hne⟩:=h;have hlt:=(Z8.1 hbk).1;refine⟨hB,v,by rw[hb.block b hlt];exact hbk,hown.kept (row:=none) ⟨hb.os,hb.tape,hb.output,hb.size,fun k hk _=>hb.block k hk⟩ ?_,hne⟩;cases hv:v.ownBlock with
 |none=>exact .inl rfl
 |some g=>exact .inr (by simp)
theorem c6F{T e:TypeId}{B b:Nat}{bs:List Value}{w w':World}(h:Lib.IsBuilder T e B b bs w)(hb:Below w.heap.size w w'):Lib.IsBuilder T e B b bs w':=
 h.elim (fun h=>.inl (b7P h hb)) (fun h=>.inr (b7P h hb))
theorem d0z(B b:Nat)(l:List UInt8)(w:World)(h:Lib.IsBuilder 191 5 B b (Lib.byteCells l) w)(hBw:B≤w.heap.size):
 Calls Tryz.prog 142 #[.pointer (some ⟨b,0,none⟩)] w.drew fun e w'=>e=.returned (.string ⟨l.toArray⟩)∧Below B w.drew w':=Go.Proofs.Any.Builder_String_any c9Y c0Z B b l w.drew h hBw
theorem c2V(a b c d e f g:Int)(t:ByteArray)(w:World)(hin:InR [a,b,c,d,e,f,g])(ht:t.size≤281474976710656)(hgi:GIW Tryz.prog w):
 Calls Tryz.prog 92 #[.agg #[.int .i64 a,.int .i64 b,.int .i64 c,.int .i64 d,.int .i64 e,.int .i64 f,.int .i64 g,.string t]] w fun e' w'=>e'=.returned (.string (⟨(O4 [a,b,c,d,e,f,g]).toArray⟩++t))∧Below w.heap.size w w':=by
 obtain⟨ns,HN⟩:∃ns:List Int,Hid (ns=[a,b,c,d,e,f,g]):=⟨_,P2 rfl⟩;have hn:ns.length=7:=by rw[HN.out];rfl
 rw[←HN.out]at hin⊢;obtain⟨wa,Ha⟩:∃wa:World,Hid (wa=(w.alloc (.cells #[.int .i64 a,.int .i64 b,.int .i64 c,.int .i64 d,.int .i64 e,.int .i64 f,.int .i64 g,.string t] 38))):=⟨_,P2 rfl⟩;have Hn:=P2 hn;clear hn
 go_enter func92,Tryz.ntmps92
 go_wp2
 have hsa:wa.heap.size=w.heap.size+1:=by rw[Ha.out];simp
 go_loopw [26] (fun i wr=>d4k w.heap.size ns w t i wr) (fun i _=>7-(intOf i).toNat)
 case atStart=>
  have h7:wa.heap[w.heap.size]?=some (.cells #[.int .i64 a,.int .i64 b,.int .i64 c,.int .i64 d,.int .i64 e,.int .i64 f,.int .i64 g,.string t] 38 (0,0)):=by rw[Ha.out];exact(a2U w _).1
  have hwb:Below w.heap.size w wa:=by rw[Ha.out];exact(Below.refl _ _).alloc (y6 _) _
  rw[←Ha.out,show #[Value.int .i64 a,.int .i64 b,.int .i64 c,.int .i64 d,.int .i64 e,.int .i64 f,.int .i64 g]=(ns.map (Value.int .i64)).toArray by rw[HN.out];rfl];refine⟨0,by omega,rfl,?_,?_,?_,fun _ _=>?_,?_,?_⟩
  ·have:=Lib.fresh_isBuilder 191 5 wa;rw[hsa]at this;exact this.elim (fun h=>.inl (c1G h _)) (fun h=>.inr (c1G h _))
  ·exact(hwb.alloc (by omega) _).alloc (by simp;omega) _
  ·simp[hsa]
  ·have:=(a2U (wa.alloc (.cells #[.pointer none,.slice none 0 0] 191)) (.cells (ns.map (Value.int .i64)).toArray 3)).1;rw[show(wa.alloc (.cells #[.pointer none,.slice none 0 0] 191)).heap.size=w.heap.size+2 by simp[hsa]]at this;exact this
  ·rw[G4 (cs:= #[.int .i64 a,.int .i64 b,.int .i64 c,.int .i64 d,.int .i64 e,.int .i64 f,.int .i64 g,.string t]) (T:=38) (fr:=(0,0))]
   ·rfl
   ·rw[(a2U _ _).2 _ (by simp;omega),(a2U _ _).2 _ (by omega)];exact h7
  ·simp[O4]
 case round=>
  obtain⟨k,hk,rfl,hB,hb,hs,hc,hx,hl⟩:=hrel;by_cases hlt:k<7
  ·have hc:=hc k hlt
   have hck:wr.cell? ⟨w.heap.size+1+1,k,none⟩=some (.int .i64 (ns.getD k 0)):=by
    rw[G4 hc];simp[List.getD,Hn.out,hlt]
   have hit:=Lib.itoa_length_le (ns.getD k 0) (b1T hin k).1 (b1T hin k).2;have hgr:=GIW.below hgi hb;obtain⟨y,Hy⟩:∃y:Int,Hid (y=ns.getD k 0):=⟨_,P2 rfl⟩;have hyr:=b1T hin k;rw[←Hy.out]at hck hit hyr
   go_wp2_with fail
   refine(d1p y hyr _ hgr).mono ?_;rintro e' w1 ⟨rfl,h1⟩
   have hsz:(⟨(Lib.itoa y).toArray⟩:ByteArray).size+(⟨#[32]⟩:ByteArray).size≤22:=by
    have e1:(⟨(Lib.itoa y).toArray⟩:ByteArray).size=(Lib.itoa y).length:=rfl;have e2:(⟨#[32]⟩:ByteArray).size=1:=rfl;omega
   have hsz2:(⟨(Lib.itoa y).toArray⟩++⟨#[32]⟩:ByteArray).size≤22:=by rw[b0E];exact hsz
   go_wp2_with fail
   have hB1:Lib.IsBuilder 191 5 (w.heap.size+1) (w.heap.size+1) (Lib.byteCells (O4 (ns.take k))) w1:=c6F hB h1;refine(d1E _ _ _ _ w1 hB1 (by rw[Lib.byteCells_length];omega) (by have:=h1.size;omega)).mono ?_;rintro e' w2 ⟨rfl,h2,h3,h4⟩;rw[Hy.out]at h2;have R:=c6t (t:=t) Hn.out hlt hin hb hs hc hx hl h1 h2 h3 h4;clear h2 h3 h4 hB1 h1 hgr hck hB hb hc hx
   go_wp2
   go_roundw
   case rel=>exact R
   case measure=>simp[intOf];omega
  ·obtain rfl:k=7:=by omega
   rw[a5m (by rw[Hn.out];exact y6 7)]at hB hl;have hn0:w.heap.size<wr.heap.size:=by omega
   have hsz:(⟨(O4 ns).toArray⟩:ByteArray).size=(O4 ns).length:=rfl;have hcat:(⟨(O4 ns).toArray⟩:ByteArray).size+t.size≤281474976710866:=by omega
   have hcat2:¬(9223372036854775807<(⟨(O4 ns).toArray⟩:ByteArray).size+t.size):=by omega
   have hcat3:¬(9223372036854775807<(O4 ns).length+t.size):=by omega
   have hbd:Below w.heap.size w wr.drew:=⟨hb.os,hb.tape,hb.output,hb.size,hb.block⟩;clear hsz
   go_wp2
   go_region_held3 (fun w'=>w'.cell? ⟨w.heap.size,7,none⟩=some (.string t))
    (first|go_keep|(rw[h2.cell (p:=⟨w.heap.size,7,none⟩) (by simp)];assumption))
    ((refine(d0z (w.heap.size+1) (w.heap.size+1) (O4 ns) wr hB (by omega)).mono ?_;rintro e' w2 ⟨rfl,h2⟩))
   all_goals
    go_wp2
    go_ret
    exact⟨rfl,hbd.trans (h2.mono (by omega))⟩
end Go.Proofs.YtggdlgclohnbaaaGreatDoor
