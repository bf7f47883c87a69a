/- Walks through functions that are not lifted by the program. -/
import Derived.Test.YtejkiefdjcfapaaGreatDoorL0
import Derived.Lib.SplitLaws
import Derived.Lib.IndexBytes
import Derived.Shelf.Strings.Split
set_option linter.unusedVariables false
set_option linter.unusedSimpArgs false
namespace Go.Proofs.YtejkiefdjcfapaaGreatDoor
open Go Go.Lib
def spl (c:UInt8):List UInt8→List (List UInt8)
 | []=> [[]]
 |x::l=>if x=c then []::spl c l else match spl c l with
  | []=> [[x]]
  |a::r=>(x::a)::r
theorem spl_app (c:UInt8) (r:List UInt8):∀d:List UInt8,(∀x∈d,x≠c)→spl c (d++c::r)=d::spl c r
 | [],_=>by simp [spl]
 |x::d,h=>by
  have ih:=spl_app c r d (fun y hy=>h y (List.mem_cons_of_mem _ hy));have hx:=h x List.mem_cons_self;simp only [List.cons_append,spl,if_neg hx,ih]
theorem spl_none (c:UInt8):∀d:List UInt8,(∀x∈d,x≠c)→spl c d= [d]
 | [],_=>rfl
 |x::d,h=>by
  have ih:=spl_none c d (fun y hy=>h y (List.mem_cons_of_mem _ hy));have hx:=h x List.mem_cons_self;simp only [spl,if_neg hx,ih]
theorem spl_rows (c:UInt8):∀ls:List (List UInt8),(∀d∈ls,∀x∈d,x≠c)→spl c (ls.flatMap fun d=>d++ [c])=ls++ [[]]
 | [],_=>rfl
 |d::ls,h=>by
  have ih:=spl_rows c ls (fun y hy=>h y (List.mem_cons_of_mem _ hy));rw [List.flatMap_cons,List.append_assoc,List.singleton_append,spl_app c _ d (h d List.mem_cons_self),ih];rfl
theorem index_at_c (c:UInt8) (post:List UInt8):∀d:List UInt8,(∀x∈d,x≠c)→Lib.indexByte (d++c::post) c=d.length
 | [],_=>by simp [Lib.indexByte]
 |b::d,h=>by
  have ih:=index_at_c c post d (fun y hy=>h y (List.mem_cons_of_mem _ hy));have hx:=h b List.mem_cons_self;have hb:(b==c)=false:=by simp [hx]
  have hm:((d.length:Int)== -1)=false:=by
   rw [beq_eq_false_iff_ne];omega
  simp only [List.cons_append,Lib.indexByte,hb,ih,hm,List.length_cons];simp
theorem splitK_spl (c:UInt8):∀(n:Nat) (l:List UInt8),l.count c=n→Lib.splitK [c] 0 n l=spl c l
 |0,l,h=>by
  rw [spl_none c l (fun x hx e=>by subst e;exact absurd (List.count_pos_iff.2 hx) (by omega))];rfl
 |n+1,l,h=>by
  have hm:c∈l:=List.count_pos_iff.1 (by omega);obtain⟨d,r,rfl,hd⟩:=List.eq_append_cons_of_mem hm;have hd':∀x∈d,x≠c:=fun x hx e=>hd (e▸hx)
  have hix:=index_at_c c r d hd'
  have hne:((d.length:Int)== -1)=false:=by
   rw [beq_eq_false_iff_ne];omega
  have hr:r.count c=n:=by
   rw [List.count_append,List.count_cons_self,List.count_eq_zero.2 hd]at h;omega
  unfold Lib.splitK;rw [Lib.index_one,hix,hne,spl_app c r d hd'];simp only [Bool.false_eq_true,if_false,Int.toNat_natCast,Nat.add_zero,List.length_singleton];rw [List.take_append_of_le_length (Nat.le_refl _),List.take_length,show(d++c::r).drop (d.length+1)=r by rw [←List.drop_drop,List.drop_left];rfl,splitK_spl c n r hr]
def bOf (l:List UInt8):ByteArray:=⟨l.toArray⟩
theorem splitB_spl (c:UInt8) (s:ByteArray):Lib.splitB ⟨#[c]⟩ 0 (Lib.countB s ⟨#[c]⟩) s=(spl c s.data.toList).map bOf:=by
 have h:=Lib.splitB_data ⟨#[c]⟩ 0 (Lib.countB s ⟨#[c]⟩) s;have hc:Lib.countB s ⟨#[c]⟩=s.data.toList.count c:=Lib.count_one c _;rw [show(⟨#[c]⟩:ByteArray).data.toList= [c] from rfl]at h;rw [←splitK_spl c _ s.data.toList hc.symm,←h,List.map_map]
 conv=>lhs;rw [←List.map_id (Lib.splitB _ _ _ _)]
 exact List.map_congr_left fun x _=>rfl
end Go.Proofs.YtejkiefdjcfapaaGreatDoor
namespace Go.Proofs.YtejkiefdjcfapaaGreatDoor
open Go Go.Shelf Go.RowKit Go.Lib Go.Sx
section
variable {P : Program} {ρ : Ren}
set_option maxHeartbeats 1000000
theorem split_one (L:Lays.n146 P ρ) (hi9:(P.info? (ρ.t 9)).map (fun i=>(i.zero,i.size,i.bytes))=some (some (.string ByteArray.empty),1,16)) (s:ByteArray) (b:UInt8) (w:World) (hs:s.size<4294967281):
 Calls P (ρ.f 146) #[.string s, .string ⟨#[b]⟩] w fun e w'=>
  e= .returned (.slice (some ⟨w.heap.size,0,none⟩) (Lib.countB s ⟨#[b]⟩+1) (Lib.countB s ⟨#[b]⟩+1))∧w'=w.alloc (.cells ((Lib.splitB ⟨#[b]⟩ 0 (Lib.countB s ⟨#[b]⟩) s).map Value.string).toArray (ρ.t 9)):=by
 have h1:1≤(⟨#[b]⟩:ByteArray).size:=Nat.le_refl 1;have hle:=Lib.countB_le ⟨#[b]⟩ h1 s.size s (Nat.le_refl _);have hlen:=Lib.splitB_all ⟨#[b]⟩ h1 0 _ s rfl
 have hC:Calls P (ρ.f 138) #[.string s, .string ⟨#[b]⟩] w fun e w'=>e= .returned (.int .i64 (Lib.countB s ⟨#[b]⟩))∧w'=w:=by
  refine(Any.strings_Count_one { L with} s b w).mono fun e w' ⟨he,hw⟩=>⟨?_,hw⟩
  rw [he];show _=Ending.returned (Value.int .i64 ((Lib.count s.data.toList [b]:Nat):Int));rw [Lib.count_one];rfl
 have c:=Any.strings_genSplit_core { L with} hi9 s ⟨#[b]⟩ 0 (-1) (Lib.countB s ⟨#[b]⟩+1) w hs h1 (Nat.zero_le _)
  (fun x cs hx=>by
   refine(Any.strings_Index_one { L with} x b _).mono fun e w' ⟨he,hw⟩=>⟨?_,hw⟩
   rw [he];show _=Ending.returned (Value.int .i64 (Lib.index x.data.toList [b]));rw [Lib.index_one])
  hC (by decide) (by decide) (by rw [if_pos (by decide)];omega)
 rw [Nat.add_sub_cancel,hlen]at c;have e2:Lib.cellsOf (Lib.splitB ⟨#[b]⟩ 0 (Lib.countB s ⟨#[b]⟩) s) (Lib.countB s ⟨#[b]⟩+1)=((Lib.splitB ⟨#[b]⟩ 0 (Lib.countB s ⟨#[b]⟩) s).map Value.string).toArray:=by rw [←hlen];exact Lib.cellsOf_full _
 rw [e2]at c;have t3:=L.t3;have t9:=L.t9;have t31:=L.t31;have a3:=L.a3;have a9:=L.a9;have a31:=L.a31;have z3:=L.z3;have v3:=L.v3;have z9:=L.z9;have v9:=L.v9;have z31:=L.z31;have v31:=L.v31;have e221:∀args w,(callFunc (ρ.f 221) args).run P w= .ok (.enter (ρ.f 221) args) w:=enters_of L.f221 (by kernel_rfl) rfl
 go_enter L.f146,Body.n146_ntmps ρ
 go_wp2_with (go_at_fn (ρ.f 221);refine c.mono ?_;rintro e w' ⟨rfl,hw⟩;rw [hw])
 go_ret
 exact⟨rfl,rfl⟩
end
end Go.Proofs.YtejkiefdjcfapaaGreatDoor
namespace Go.Proofs.YtejkiefdjcfapaaGreatDoor
open Go Go.RowKit Go.Lib Go.Sx
theorem repL_strs {ok:Nat→Prop} {w:World}:∀l:List ByteArray,RepL ok w (l.flatMap fun(x:ByteArray)=> [.v (.string x)]) (l.map Value.string)
 | []=>trivial
 |x::l=>by
  simp only [List.flatMap_cons,List.cons_append,List.nil_append,List.map_cons,RepL,Rep,oneV,and_self,true_and];exact repL_strs l
theorem flat_strs (l:List ByteArray):flatD (l.flatMap fun(x:ByteArray)=> [.v (.string x)])=true:=flatD_of fun d hd=>by
 obtain⟨r,_,hd⟩:=List.mem_flatMap.1 hd;simp only [List.mem_singleton]at hd;subst hd;rfl
def m_strings_Split (s sep:ByteArray):Option (List ByteArray):=gd (s.size<4294967281∧sep.size=1) (some (Lib.splitB sep 0 (Lib.countB s sep) s))
theorem d_strings_Split (s sep:ByteArray) (r:List ByteArray) (hm:m_strings_Split s sep=some r):Does Tryz.prog 45 [.v (.string s), .v (.string sep)] (fun x=>x=lD 1 r (fun(x:ByteArray)=> [.v (.string x)])):=by
 obtain⟨hg,hm⟩:=gd_some hm;cases hm;obtain⟨b,rfl⟩:=Lib.one_byte sep hg.2;intro ok w vs hr _ _;rw [repL2 hr];have hlen:=Lib.splitB_all ⟨#[b]⟩ (Nat.le_refl 1) 0 _ s rfl;have hle:=Lib.countB_le ⟨#[b]⟩ (Nat.le_refl 1) s.size s (Nat.le_refl _);refine(split_one lay_split (by kernel_rfl) s b w hg.1).mono fun e w' ⟨he,hw⟩=>⟨_,_,he,rfl, ?_, ?_⟩
 · subst hw;simp only [lD,Rep];refine⟨some ⟨w.heap.size,0,none⟩,Lib.countB s ⟨#[b]⟩+1,by simp only [hlen],by omega,by omega,flat_len_z (c:=fun(x:ByteArray)=> [.v (.string x)]) (z:=1) (fun _=>rfl) _,flat_strs _, .inr ⟨w.heap.size,0,_,rfl, .inr ⟨Nat.le_refl _,by simp⟩,repL_strs _,fun j hj=> ?_⟩⟩;rw [Lib.cell_of_heap (MapKept.heap_alloc w _).1,Nat.zero_add];simp
 · subst hw;exact(Below.refl _ w).alloc (Nat.le_refl _) _
end Go.Proofs.YtejkiefdjcfapaaGreatDoor
